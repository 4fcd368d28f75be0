import PyProof.Rows.All
import KE.SortData
import KE.DatumMoreOrd
import Wide.All
import OpenK.AllK
import Wide.FinOn
import HandS.ForMost
import HandS.AnyAll
import KE.DatumIndex
import HandS.Nested
import PySem.Challenge.RW_treeserved_k55_whole_rounds_and_their_re
import HandS.NoneIn
import HandS.EndTab
import KE.KNest
-- text TmA
/-! simple paths of a relation; own work -/
set_option linter.all false
namespace TM
section
variable {α : Type} [DecidableEq α] {R : α → α → Prop}

/-- a simple path from a to b along R: its nodes in order, all different -/
inductive SP (R : α → α → Prop) : α → α → List α → Prop
  | one (a : α) : SP R a a [a]
  | cons {a b c : α} {l : List α} : R a b → SP R b c l → a ∉ l → SP R a c (a :: l)

theorem SP.head {a b : α} {l : List α} (h : SP R a b l) : ∃ q, l = a :: q := by
  cases h with
  | one => exact ⟨_, rfl⟩
  | cons _ _ _ => exact ⟨_, rfl⟩
theorem SP.mem_l {a b : α} {l : List α} (h : SP R a b l) : a ∈ l := by
  obtain ⟨q, rfl⟩ := h.head
  exact List.mem_cons_self
theorem SP.mem_r {a b : α} {l : List α} (h : SP R a b l) : b ∈ l := by
  induction h with
  | one => exact List.mem_cons_self
  | cons _ _ _ ih => exact List.mem_cons_of_mem _ ih
theorem SP.last {a b : α} {l : List α} (h : SP R a b l) : ∃ p, l = p ++ [b] := by
  induction h with
  | one a => exact ⟨[], rfl⟩
  | @cons a b c l _ _ _ ih =>
    obtain ⟨p, e⟩ := ih
    exact ⟨a :: p, by rw [e]; rfl⟩
theorem SP.nd {a b : α} {l : List α} (h : SP R a b l) : l.Nodup := by
  induction h with
  | one a => simp
  | cons _ _ n ih => exact List.nodup_cons.mpr ⟨n, ih⟩
theorem SP.ne {a b : α} {l : List α} (h : SP R a b l) : l ≠ [] := by
  obtain ⟨q, rfl⟩ := h.head
  simp
theorem SP.snoc {a b c : α} {l : List α} (h : SP R a b l) (r : R b c) (n : c ∉ l) : SP R a c (l ++ [c]) := by
  induction h with
  | one a =>
    refine .cons r (.one c) ?_
    intro e
    exact n (by rw [List.mem_singleton.mp e]; exact List.mem_cons_self)
  | @cons a b d l r1 _ na ih =>
    refine .cons r1 (ih r (fun q => n (List.mem_cons_of_mem _ q))) ?_
    intro q
    rcases List.mem_append.mp q with q | q
    · exact na q
    · exact n (by rw [← List.mem_singleton.mp q]; exact List.mem_cons_self)
theorem SP.rev (sym : ∀ x y, R x y → R y x) {a b : α} {l : List α} (h : SP R a b l) : SP R b a l.reverse := by
  induction h with
  | one a => exact .one a
  | @cons a b c l r _ na ih =>
    rw [List.reverse_cons]
    exact ih.snoc (sym _ _ r) (fun q => na (List.mem_reverse.mp q))
/-- from a node on it to the end -/
theorem SP.suf {a b x : α} {p q : List α} (h : SP R a b (p ++ x :: q)) : SP R x b (x :: q) := by
  induction p generalizing a with
  | nil =>
    obtain ⟨t, e⟩ := h.head
    rw [List.nil_append, List.cons.injEq] at e
    obtain ⟨rfl, rfl⟩ := e
    exact h
  | cons y p ih =>
    generalize e : (y :: p ++ x :: q) = l at h
    cases h with
    | one => simp at e
    | @cons a b' c l' r h2 n =>
      rw [List.cons_append, List.cons.injEq] at e
      obtain ⟨rfl, rfl⟩ := e
      exact ih h2
theorem SP.pre {a b x : α} {p q : List α} (h : SP R a b (p ++ x :: q)) : SP R a x (p ++ [x]) := by
  induction p generalizing a with
  | nil =>
    obtain ⟨t, e⟩ := h.head
    rw [List.nil_append, List.cons.injEq] at e
    rw [e.1]
    exact .one _
  | cons y p ih =>
    generalize e : (y :: p ++ x :: q) = l at h
    cases h with
    | one => simp at e
    | @cons a b' c l' r h2 n =>
      rw [List.cons_append, List.cons.injEq] at e
      obtain ⟨rfl, rfl⟩ := e
      refine .cons r (ih h2) (fun z => n ?_)
      rcases List.mem_append.mp z with z | z
      · exact List.mem_append_left _ z
      · rw [List.mem_singleton.mp z]
        exact List.mem_append_right _ List.mem_cons_self
theorem SP.app {a b c d : α} {p q : List α} (h : SP R a b p) (r : R b c) (h2 : SP R c d q) (dj : ∀ x, x ∈ p → x ∉ q) : SP R a d (p ++ q) := by
  induction h with
  | one a => exact .cons r h2 (dj a List.mem_cons_self)
  | @cons a b' c' l r1 _ na ih =>
    refine .cons r1 (ih r (fun x hx => dj x (List.mem_cons_of_mem _ hx))) (fun z => ?_)
    rcases List.mem_append.mp z with z | z
    · exact na z
    · exact dj a List.mem_cons_self z
/-- a set that is closed along R and has the start has all of the path -/
theorem SP.closed {S : α → Prop} (cl : ∀ x y, S x → R x y → S y) {a b : α} {l : List α} (h : SP R a b l) (sa : S a) : ∀ x ∈ l, S x := by
  induction h with
  | one a => intro x hx; rw [List.mem_singleton.mp hx]; exact sa
  | @cons a b c l r _ _ ih =>
    intro x hx
    rcases List.mem_cons.mp hx with rfl | hx
    · exact sa
    · exact ih (cl _ _ sa r) x hx
theorem SP.mono {R' : α → α → Prop} {a b : α} {l : List α} (h : SP R a b l) (m : ∀ x y, x ∈ l → y ∈ l → R x y → R' x y) : SP R' a b l := by
  induction h with
  | one a => exact .one a
  | @cons a b c l r h2 na ih =>
    exact .cons (m _ _ List.mem_cons_self (List.mem_cons_of_mem _ h2.mem_l) r) (ih (fun x y hx hy => m x y (List.mem_cons_of_mem _ hx) (List.mem_cons_of_mem _ hy))) na
end

/-- what makes a relation a tree's: between any two nodes just one simple path -/
structure Uq {α : Type} (R : α → α → Prop) (N : List α) : Prop where
  sym : ∀ x y, R x y → R y x
  irr : ∀ x, ¬ R x x
  dom : ∀ x y, R x y → x ∈ N
  conn : ∀ a b, a ∈ N → b ∈ N → ∃ l, SP R a b l
  uniq : ∀ a b l l', SP R a b l → SP R a b l' → l = l'
section
variable {α : Type} [DecidableEq α] {R : α → α → Prop} {N : List α}
theorem Uq.sub (U : Uq R N) {a b : α} {l : List α} (h : SP R a b l) (ha : a ∈ N) : ∀ x ∈ l, x ∈ N :=
  h.closed (S := fun x => x ∈ N) (fun x y _ r => U.dom y x (U.sym x y r)) ha
theorem Uq.two (U : Uq R N) {x y : α} (r : R x y) : SP R x y [x, y] := by
  refine .cons r (.one y) (fun e => U.irr x ?_)
  have e' : x = y := List.mem_singleton.mp e
  rw [← e'] at r
  exact r
/-- of two neighbors one hangs on the other, seen from r -/
theorem Uq.hang (U : Uq R N) {r x y : α} {px py : List α} (a : R x y) (hx : SP R r x px) (hy : SP R r y py) : py = px ++ [y] ∨ px = py ++ [x] := by
  by_cases hm : y ∈ px
  · right
    obtain ⟨p, q, rfl⟩ := List.append_of_mem hm
    have h1 := U.uniq _ _ _ _ hx.suf (U.two (U.sym _ _ a))
    have h2 := U.uniq _ _ _ _ hx.pre hy
    rw [← h2, h1]
    simp
  · left
    exact U.uniq _ _ _ _ hy (hx.snoc a hm)
/-- a node on a path: the path to it is a first part -/
theorem Uq.first (U : Uq R N) {r y z : α} {py pz : List α} (hy : SP R r y py) (hz : SP R r z pz) (hm : z ∈ py) : ∃ q, py = pz ++ q := by
  obtain ⟨p, q, rfl⟩ := List.append_of_mem hm
  exact ⟨q, by rw [← U.uniq _ _ _ _ hy.pre hz]; simp⟩
/-- s hangs on f (seen from r): x lies behind the edge as the path from f tells, and as the path from r does -/
theorem Uq.side (U : Uq R N) {r f s x : α} {pf px pfx : List α} (a : R f s) (hf : SP R r f pf) (hs : SP R r s (pf ++ [s])) (hx : SP R r x px) (hfx : SP R f x pfx) : s ∈ pfx ↔ s ∈ px := by
  constructor
  · intro hm
    obtain ⟨p, q, rfl⟩ := List.append_of_mem hm
    have e1 := U.uniq _ _ _ _ hfx.pre (U.two a)
    have e2 : p = [f] := by
      have : p ++ [s] = [f] ++ [s] := e1
      exact List.append_cancel_right this
    subst e2
    have nsf : s ∉ pf := fun z => by
      have := hs.nd
      rw [List.nodup_append] at this
      exact this.2.2 s z s (by simp) rfl
    have dj : ∀ y, y ∈ pf → y ∉ s :: q := by
      intro y hy hy2
      obtain ⟨u, v, rfl⟩ := List.append_of_mem hy
      have h1 : SP R f y (y :: v).reverse := hf.suf.rev U.sym
      obtain ⟨m, n, e⟩ := List.append_of_mem hy2
      have h2 : SP R f x (([f] ++ m) ++ y :: n) := by
        have : [f] ++ s :: q = ([f] ++ m) ++ y :: n := by rw [e]; simp
        rw [← this]
        exact hfx
      have e3 := U.uniq _ _ _ _ h1 h2.pre
      have hs3 : s ∈ (y :: v).reverse := by
        rw [e3]
        cases m with
        | nil =>
          have : s = y := (List.cons.inj e).1
          rw [this]
          simp
        | cons m0 m =>
          have : s = m0 := (List.cons.inj e).1
          rw [this]
          simp
      exact nsf (List.mem_append_right _ (List.mem_reverse.mp hs3))
    have h3 : SP R r x (pf ++ s :: q) := hf.app a (show SP R s x (s :: q) from SP.suf (p := [f]) hfx) dj
    rw [U.uniq _ _ _ _ hx h3]
    exact List.mem_append_right _ List.mem_cons_self
  · intro hm
    obtain ⟨q, e⟩ := U.first hx hs hm
    obtain ⟨p, e2⟩ := hf.last
    have h1 : SP R r x (p ++ f :: ([s] ++ q)) := by
      have : px = p ++ f :: ([s] ++ q) := by rw [e, e2]; simp
      rw [← this]
      exact hx
    rw [U.uniq _ _ _ _ hfx h1.suf]
    simp
/-- each node is nearer to the one or to the other end of an edge -/
theorem Uq.either (U : Uq R N) {f s x : α} {pfx psx : List α} (a : R f s) (hf : SP R f x pfx) (hs : SP R s x psx) : s ∈ pfx ↔ f ∉ psx := by
  constructor
  · intro hm hm2
    obtain ⟨p, q, rfl⟩ := List.append_of_mem hm
    have e1 := U.uniq _ _ _ _ hf.pre (U.two a)
    have e2 : p = [f] := by
      have : p ++ [s] = [f] ++ [s] := e1
      exact List.append_cancel_right this
    subst e2
    have e3 := U.uniq _ _ _ _ hs (SP.suf (p := [f]) hf)
    rw [e3] at hm2
    have := hf.nd
    exact (List.nodup_cons.mp this).1 hm2
  · intro hn
    refine Classical.byContradiction fun hm => hn ?_
    rw [U.uniq _ _ _ _ hs (.cons (U.sym _ _ a) hf hm)]
    exact List.mem_cons_of_mem _ hf.mem_l
end

section
variable {α : Type} [DecidableEq α] {R R' : α → α → Prop} {N : List α}
theorem SP.self {a : α} {l : List α} (h : SP R a a l) : l = [a] := by
  cases h with
  | one => rfl
  | cons r h2 n => exact absurd h2.mem_r n
theorem Uq.of_iff (U : Uq R N) (e : ∀ x y, R x y ↔ R' x y) : Uq R' N := by
  have e' : R = R' := by
    funext x y
    exact propext (e x y)
  rw [← e']
  exact U
theorem Uq.single (x : α) : Uq (fun _ _ => False) [x] where
  sym := fun _ _ h => h
  irr := fun _ h => h
  dom := fun _ _ h => h.elim
  conn := fun a b ha hb => ⟨[x], by rw [List.mem_singleton.mp ha, List.mem_singleton.mp hb]; exact .one x⟩
  uniq := fun a b l l' h h' => by
    cases h with
    | one => cases h' with
      | one => rfl
      | cons r _ _ => exact r.elim
    | cons r _ _ => exact r.elim
/-- a leaf v at u more -/
def Leaf (R : α → α → Prop) (u v : α) (x y : α) : Prop := R x y ∨ (x = u ∧ y = v) ∨ (x = v ∧ y = u)
theorem Uq.leaf (U : Uq R N) {u v : α} (hu : u ∈ N) (hv : v ∉ N) : Uq (Leaf R u v) (N ++ [v]) := by
  have uv : u ≠ v := fun e => hv (e ▸ hu)
  have dom2 : ∀ x y, R x y → y ∈ N := fun x y r => U.dom y x (U.sym _ _ r)
  have sym : ∀ x y, Leaf R u v x y → Leaf R u v y x := by
    rintro x y (r | ⟨rfl, rfl⟩ | ⟨rfl, rfl⟩)
    · exact .inl (U.sym _ _ r)
    · exact .inr (.inr ⟨rfl, rfl⟩)
    · exact .inr (.inl ⟨rfl, rfl⟩)
  have atv : ∀ y, Leaf R u v v y → y = u := by
    rintro y (r | ⟨e, rfl⟩ | ⟨_, rfl⟩)
    · exact absurd (U.dom _ _ r) hv
    · exact absurd e.symm uv
    · rfl
  have old : ∀ x y, x ≠ v → y ≠ v → Leaf R u v x y → R x y := by
    rintro x y hx hy (r | ⟨_, rfl⟩ | ⟨rfl, _⟩)
    · exact r
    · exact absurd rfl hy
    · exact absurd rfl hx
  have up : ∀ {a b l}, SP R a b l → SP (Leaf R u v) a b l := fun h => h.mono fun _ _ _ _ r => .inl r
  have down : ∀ {a b l}, SP (Leaf R u v) a b l → v ∉ l → SP R a b l := fun h n => h.mono fun x y hx hy r => old x y (fun e => n (e ▸ hx)) (fun e => n (e ▸ hy)) r
  have ends : ∀ {a b l}, SP (Leaf R u v) a b l → v ∈ l → a = v ∨ b = v := by
    intro a b l h hm
    obtain ⟨p, q, rfl⟩ := List.append_of_mem hm
    rcases List.eq_nil_or_concat p with rfl | ⟨p', y, rfl⟩
    · obtain ⟨t, e⟩ := h.head
      exact .inl (List.cons.inj e).1.symm
    · cases q with
      | nil =>
        obtain ⟨t, e⟩ := h.last
        exact .inr (List.append_inj' e rfl |>.2 |> fun z => (List.cons.inj z).1.symm)
      | cons z q =>
        exfalso
        have h1 : SP (Leaf R u v) y b (y :: v :: z :: q) := by
          have : (p'.concat y ++ v :: z :: q) = p' ++ y :: v :: z :: q := by simp
          rw [this] at h
          exact h.suf
        have nd := h1.nd
        cases h1 with
        | @cons _ b1 _ _ r1 h2 n1 =>
          obtain ⟨t, e⟩ := h2.head
          obtain rfl := (List.cons.inj e).1
          have ey : y = u := atv _ (sym _ _ r1)
          cases h2 with
          | @cons _ b2 _ _ r2 h3 n2 =>
            obtain ⟨t, e⟩ := h3.head
            obtain rfl := (List.cons.inj e).1
            have ez : z = u := atv _ r2
            exact n1 (by rw [ey, ← ez]; simp)
  have fromv : ∀ {b l}, b ≠ v → SP (Leaf R u v) v b l → ∃ t, l = v :: t ∧ SP R u b t := by
    intro b l hb h
    cases h with
    | one => exact absurd rfl hb
    | @cons _ y _ t r h2 n =>
      obtain rfl := atv _ r
      exact ⟨t, rfl, down h2 n⟩
  have uqv : ∀ {b l l'}, SP (Leaf R u v) v b l → SP (Leaf R u v) v b l' → l = l' := by
    intro b l l' h h'
    by_cases hb : b = v
    · subst hb
      rw [h.self, h'.self]
    · obtain ⟨t, rfl, h1⟩ := fromv hb h
      obtain ⟨t', rfl, h1'⟩ := fromv hb h'
      rw [U.uniq _ _ _ _ h1 h1']
  refine ⟨sym, ?_, ?_, ?_, ?_⟩
  · rintro x (r | ⟨rfl, e⟩ | ⟨rfl, e⟩)
    · exact U.irr _ r
    · exact uv e
    · exact uv e.symm
  · rintro x y (r | ⟨rfl, rfl⟩ | ⟨rfl, rfl⟩)
    · exact List.mem_append_left _ (U.dom _ _ r)
    · exact List.mem_append_left _ hu
    · exact List.mem_append_right _ (by simp)
  · have one : ∀ a, a ∈ N → ∃ l, SP (Leaf R u v) a v l := by
      intro a ha
      obtain ⟨l, hl⟩ := U.conn a u ha hu
      exact ⟨l ++ [v], (up hl).snoc (.inr (.inl ⟨rfl, rfl⟩)) (fun z => hv (U.sub hl ha _ z))⟩
    intro a b ha hb
    rcases List.mem_append.mp ha with ha | ha
    · rcases List.mem_append.mp hb with hb | hb
      · obtain ⟨l, hl⟩ := U.conn a b ha hb
        exact ⟨l, up hl⟩
      · rw [List.mem_singleton.mp hb]
        exact one a ha
    · rw [List.mem_singleton.mp ha]
      rcases List.mem_append.mp hb with hb | hb
      · obtain ⟨l, hl⟩ := one b hb
        exact ⟨l.reverse, hl.rev sym⟩
      · rw [List.mem_singleton.mp hb]
        exact ⟨[v], .one v⟩
  · intro a b l l' h h'
    by_cases ha : a = v
    · subst ha
      exact uqv h h'
    · by_cases hb : b = v
      · subst hb
        have e := uqv (h.rev sym) (h'.rev sym)
        exact List.reverse_inj.mp e
      · have n1 : v ∉ l := fun z => (ends h z).elim ha hb
        have n2 : v ∉ l' := fun z => (ends h' z).elim ha hb
        exact U.uniq _ _ _ _ (down h n1) (down h' n2)
end
end TM
-- text TmB
/-! the program's functions as plain functions; own work -/
set_option linter.all false
namespace TM
open PySem PySem.W

abbrev Ed := T3 Str Str Int
/-- a tree of the program: its nodes, its edges -/
structure Tr where
  ns : List (Str × Int)
  es : List Ed
def Tr.names (T : Tr) : List Str := T.ns.map (·.1)
/-- the order by which Python sorts pairs of a name and a number -/
def srt2 (l : List (Str × Int)) : List (Str × Int) := l.mergeSort (dataLe false Datum.toD)
def srt3 (l : List Ed) : List Ed := l.mergeSort (dataLe false Datum.toD)
def srtS (l : List Str) : List Str := l.mergeSort (dataLe false Datum.toD)
theorem srt2_perm (l : List (Str × Int)) : (srt2 l).Perm l := List.mergeSort_perm l _
theorem srt3_perm (l : List Ed) : (srt3 l).Perm l := List.mergeSort_perm l _
theorem srtS_perm (l : List Str) : (srtS l).Perm l := List.mergeSort_perm l _

def nb1 (x : Str) (e : Ed) : List (Str × Int) := (if e.a = x then [(e.b, e.c)] else []) ++ (if e.b = x then [(e.a, e.c)] else [])
def nbrs (es : List Ed) (x : Str) : List (Str × Int) := srt2 (es.flatMap (nb1 x))
def Adj (es : List Ed) (x y : Str) : Prop := ∃ e ∈ es, (e.a = x ∧ e.b = y) ∨ (e.a = y ∧ e.b = x)

theorem mem_nb1 {x : Str} {e : Ed} {p : Str × Int} : p ∈ nb1 x e ↔ (e.a = x ∧ p = (e.b, e.c)) ∨ (e.b = x ∧ p = (e.a, e.c)) := by
  unfold nb1
  by_cases h1 : e.a = x <;> by_cases h2 : e.b = x <;> simp [h1, h2]
theorem mem_nbrs {es : List Ed} {x : Str} {p : Str × Int} : p ∈ nbrs es x ↔ ∃ e ∈ es, (e.a = x ∧ p = (e.b, e.c)) ∨ (e.b = x ∧ p = (e.a, e.c)) := by
  unfold nbrs
  rw [(srt2_perm _).mem_iff, List.mem_flatMap]
  constructor
  · rintro ⟨e, he, h⟩
    exact ⟨e, he, mem_nb1.mp h⟩
  · rintro ⟨e, he, h⟩
    exact ⟨e, he, mem_nb1.mpr h⟩
theorem adj_of_nbrs {es : List Ed} {x : Str} {p : Str × Int} (h : p ∈ nbrs es x) : Adj es x p.1 := by
  obtain ⟨e, he, h⟩ := mem_nbrs.mp h
  rcases h with ⟨h1, rfl⟩ | ⟨h1, rfl⟩
  · exact ⟨e, he, .inl ⟨h1, rfl⟩⟩
  · exact ⟨e, he, .inr ⟨rfl, h1⟩⟩
theorem nbrs_of_adj {es : List Ed} {x y : Str} (h : Adj es x y) : ∃ p ∈ nbrs es x, p.1 = y := by
  obtain ⟨e, he, h⟩ := h
  rcases h with ⟨h1, h2⟩ | ⟨h1, h2⟩
  · exact ⟨(e.b, e.c), mem_nbrs.mpr ⟨e, he, .inl ⟨h1, rfl⟩⟩, h2⟩
  · exact ⟨(e.a, e.c), mem_nbrs.mpr ⟨e, he, .inr ⟨h2, rfl⟩⟩, h1⟩
theorem Adj.sym {es : List Ed} {x y : Str} (h : Adj es x y) : Adj es y x := by
  obtain ⟨e, he, h⟩ := h
  exact ⟨e, he, h.symm⟩

/-! paths, breadth first -/
abbrev Ways := List (Str × List Str)
def look (ws : Ways) (x : Str) : Option (List Str) := (ws.find? fun p => decide (p.1 = x)).map (·.2)
def bstep (w : List Str) (st : Ways × List Str) (o : Str) : Ways × List Str := if (look st.1 o).isSome then st else (st.1 ++ [(o, w ++ [o])], st.2 ++ [o])
def bfs (es : List Ed) (b : Str) : Nat → Ways → List Str → Option (List Str)
  | 0, _, _ => none
  | n + 1, ws, q => match look ws b with
    | some l => some l
    | none => match q with
      | [] => none
      | x :: q' => match look ws x with
        | none => none
        | some w => if w.length ≤ 100 ∧ ws.length ≤ 100 ∧ q'.length ≤ 100 then bfs es b n (((nbrs es x).map (·.1)).foldl (bstep w) (ws, q')).1 (((nbrs es x).map (·.1)).foldl (bstep w) (ws, q')).2 else none
def pthO (es : List Ed) (a b : Str) : Option (List Str) := bfs es b 14 [(a, [a])] [a]
def pth (es : List Ed) (a b : Str) : List Str := (pthO es a b).getD []

theorem look_none {ws : Ways} {x : Str} : look ws x = none ↔ x ∉ ws.map (·.1) := by
  unfold look
  rw [Option.map_eq_none_iff, List.find?_eq_none]
  constructor
  · intro h hm
    obtain ⟨p, hp, e⟩ := List.mem_map.mp hm
    exact h p hp (decide_eq_true e)
  · intro h p hp e
    exact h (List.mem_map.mpr ⟨p, hp, of_decide_eq_true e⟩)
theorem look_some {ws : Ways} {x : Str} {l : List Str} (h : look ws x = some l) : (x, l) ∈ ws := by
  unfold look at h
  obtain ⟨p, hp, e⟩ := Option.map_eq_some_iff.mp h
  have h1 := List.find?_some hp
  have h2 := List.mem_of_find?_eq_some hp
  have h3 : p.1 = x := of_decide_eq_true h1
  have h4 : p = (x, l) := Prod.ext h3 e
  rw [← h4]
  exact h2
theorem look_of_mem {ws : Ways} {x : Str} (h : x ∈ ws.map (·.1)) : ∃ l, look ws x = some l := by
  cases e : look ws x with
  | none => exact absurd h (look_none.mp e)
  | some l => exact ⟨l, rfl⟩
theorem look_app {ws vs : Ways} {x : Str} {l : List Str} (h : look ws x = some l) : look (ws ++ vs) x = some l := by
  unfold look at *
  obtain ⟨p, hp, e⟩ := Option.map_eq_some_iff.mp h
  rw [List.find?_append, hp]
  exact congrArg some e

/-- a tree as the law makes it -/
structure GT (T : Tr) : Prop where
  len : T.ns.length ≤ 12
  elen : T.es.length ≤ 12
  nd : T.names.Nodup
  ord : ∀ e ∈ T.es, DatumOrd.lt e.a e.b = true
  keys : (T.es.map fun e => (e.a, e.b)).Nodup
  uq : Uq (Adj T.es) T.names

section
variable {T : Tr}
/-- what holds between two turns of path's loop -/
structure BI (es : List Ed) (a : Str) (done : List Str) (ws : Ways) (q : List Str) : Prop where
  ks : ws.map (·.1) = done ++ q
  nd : (ws.map (·.1)).Nodup
  sp : ∀ p ∈ ws, SP (Adj es) a p.1 p.2 ∧ ∀ y ∈ p.2, y ∈ ws.map (·.1)
  cl : ∀ x ∈ done, ∀ y, Adj es x y → y ∈ ws.map (·.1)
  ha : a ∈ ws.map (·.1)

theorem bstep_keys {w : List Str} (st : Ways × List Str) (o : Str) : ∃ vs, (bstep w st o).1 = st.1 ++ vs ∧ o ∈ ((bstep w st o).1).map (·.1) := by
  unfold bstep
  by_cases h : (look st.1 o).isSome = true
  · rw [if_pos h]
    refine ⟨[], by simp, ?_⟩
    refine Classical.byContradiction fun z => ?_
    rw [look_none.mpr z] at h
    simp at h
  · rw [if_neg h]
    exact ⟨[(o, w ++ [o])], rfl, by simp⟩
theorem bfold_keys {w : List Str} : ∀ (os : List Str) (st : Ways × List Str), ∃ vs, (os.foldl (bstep w) st).1 = st.1 ++ vs ∧ ∀ o ∈ os, o ∈ ((os.foldl (bstep w) st).1).map (·.1)
  | [], st => ⟨[], by simp, by simp⟩
  | o :: os, st => by
    obtain ⟨v1, e1, m1⟩ := bstep_keys (w := w) st o
    obtain ⟨v2, e2, m2⟩ := bfold_keys (w := w) os (bstep w st o)
    refine ⟨v1 ++ v2, by rw [List.foldl_cons, e2, e1, List.append_assoc], fun z hz => ?_⟩
    rw [List.foldl_cons]
    rcases List.mem_cons.mp hz with rfl | hz
    · rw [e2, List.map_append]
      exact List.mem_append_left _ m1
    · exact m2 z hz
/-- the inner loop, from the node x with the path w -/
theorem bfold_inv {es : List Ed} {a x : Str} {w : List Str} {done : List Str} : ∀ (os : List Str) (ws : Ways) (q : List Str), (∀ o ∈ os, Adj es x o) → SP (Adj es) a x w → (∀ y ∈ w, y ∈ ws.map (·.1)) →
    ws.map (·.1) = done ++ q → (ws.map (·.1)).Nodup → (∀ p ∈ ws, SP (Adj es) a p.1 p.2 ∧ ∀ y ∈ p.2, y ∈ ws.map (·.1)) →
    let st := os.foldl (bstep w) (ws, q)
    st.1.map (·.1) = done ++ st.2 ∧ (st.1.map (·.1)).Nodup ∧ (∀ p ∈ st.1, SP (Adj es) a p.1 p.2 ∧ ∀ y ∈ p.2, y ∈ st.1.map (·.1))
  | [], ws, q, _, _, _, h1, h2, h3 => ⟨h1, h2, h3⟩
  | o :: os, ws, q, ho, hw, hwk, h1, h2, h3 => by
    rw [List.foldl_cons]
    have hb : bstep w (ws, q) o = if (look ws o).isSome then (ws, q) else (ws ++ [(o, w ++ [o])], q ++ [o]) := rfl
    by_cases h : (look ws o).isSome = true
    · rw [hb, if_pos h]
      exact bfold_inv os ws q (fun z hz => ho z (List.mem_cons_of_mem _ hz)) hw hwk h1 h2 h3
    · rw [hb, if_neg h]
      have hn : o ∉ ws.map (·.1) := by
        refine look_none.mp ?_
        cases e : look ws o with
        | none => rfl
        | some l => rw [e] at h; exact absurd rfl h
      have ek : (ws ++ [(o, w ++ [o])]).map (·.1) = ws.map (·.1) ++ [o] := by simp
      refine bfold_inv os _ _ (fun z hz => ho z (List.mem_cons_of_mem _ hz)) hw (fun y hy => ?_) ?_ ?_ ?_
      · rw [ek]; exact List.mem_append_left _ (hwk y hy)
      · rw [ek, h1, List.append_assoc]
      · rw [ek, List.nodup_append]
        refine ⟨h2, by simp, fun y hy z hz e => ?_⟩
        rw [List.mem_singleton.mp hz] at e
        exact hn (e ▸ hy)
      · intro p hp
        rw [ek]
        rcases List.mem_append.mp hp with hp | hp
        · exact ⟨(h3 p hp).1, fun y hy => List.mem_append_left _ ((h3 p hp).2 y hy)⟩
        · obtain rfl := List.mem_singleton.mp hp
          refine ⟨hw.snoc (ho o List.mem_cons_self) (fun z => hn (hwk o z)), fun y hy => ?_⟩
          rcases List.mem_append.mp hy with hy | hy
          · exact List.mem_append_left _ (hwk y hy)
          · exact List.mem_append_right _ hy

theorem GT.short (G : GT T) {a b : Str} {l : List Str} (h : SP (Adj T.es) a b l) (ha : a ∈ T.names) : l.length ≤ 12 := by
  have h1 := h.nd.length_le_of_subset (fun x hx => G.uq.sub h ha x hx)
  have h2 : T.names.length = T.ns.length := List.length_map ..
  have := G.len
  omega
theorem GT.bfs_ok (G : GT T) {a b : Str} (ha : a ∈ T.names) (hb : b ∈ T.names) : ∀ (n : Nat) (done : List Str) (ws : Ways) (q : List Str), BI T.es a done ws q → 14 ≤ n + done.length →
    ∃ l, bfs T.es b n ws q = some l ∧ SP (Adj T.es) a b l := by
  intro n
  induction n with
  | zero =>
    intro done ws q B hn
    exfalso
    have h1 : done.length ≤ T.names.length := by
      refine (List.Nodup.sublist ?_ B.nd).length_le_of_subset (l₁ := done) (fun x hx => ?_)
      · rw [B.ks]; exact List.sublist_append_left _ _
      · have : x ∈ ws.map (·.1) := by rw [B.ks]; exact List.mem_append_left _ hx
        obtain ⟨p, hp, rfl⟩ := List.mem_map.mp this
        exact G.uq.sub (B.sp p hp).1 ha _ (B.sp p hp).1.mem_r
    have h2 : T.names.length = T.ns.length := List.length_map ..
    have := G.len
    omega
  | succ n ih =>
    intro done ws q B hn
    unfold bfs
    have hkn : ∀ x ∈ ws.map (·.1), x ∈ T.names := fun x hx => by
      obtain ⟨p, hp, rfl⟩ := List.mem_map.mp hx
      exact G.uq.sub (B.sp p hp).1 ha _ (B.sp p hp).1.mem_r
    have hlen : ws.length ≤ 12 := by
      have h1 := B.nd.length_le_of_subset (fun x hx => hkn x hx)
      have h2 : T.names.length = T.ns.length := List.length_map ..
      have h3 := G.len
      rw [List.length_map] at h1
      omega
    cases e : look ws b with
    | some l => exact ⟨l, rfl, (B.sp _ (look_some e)).1⟩
    | none =>
      cases q with
      | nil =>
        exfalso
        obtain ⟨l, hl⟩ := G.uq.conn a b ha hb
        have hk : ws.map (·.1) = done := by rw [B.ks]; simp
        refine look_none.mp e (hl.closed (S := fun x => x ∈ ws.map (·.1)) (fun x y hx r => B.cl x (hk ▸ hx) y r) B.ha b hl.mem_r)
      | cons x q' =>
        have hx : x ∈ ws.map (·.1) := by rw [B.ks]; simp
        obtain ⟨w, hw⟩ := look_of_mem hx
        have hq : q'.length ≤ 100 := by
          have h1 : (ws.map (·.1)).length = (done ++ x :: q').length := by rw [B.ks]
          rw [List.length_map, List.length_append, List.length_cons] at h1
          omega
        have hs := B.sp _ (look_some hw)
        have hwl : w.length ≤ 100 := Nat.le_trans (G.short hs.1 ha) (by decide)
        simp only [hw]
        rw [if_pos ⟨hwl, by omega, hq⟩]
        have hos : ∀ o ∈ (nbrs T.es x).map (·.1), Adj T.es x o := fun o ho => by
          obtain ⟨p, hp, rfl⟩ := List.mem_map.mp ho
          exact adj_of_nbrs hp
        have hk : ws.map (·.1) = (done ++ [x]) ++ q' := by rw [B.ks]; simp
        obtain ⟨i1, i2, i3⟩ := bfold_inv (es := T.es) (a := a) (x := x) (w := w) (done := done ++ [x]) ((nbrs T.es x).map (·.1)) ws q' hos hs.1 hs.2 hk B.nd B.sp
        obtain ⟨vs, e1, e2⟩ := bfold_keys (w := w) ((nbrs T.es x).map (·.1)) (ws, q')
        refine ih (done ++ [x]) _ _ ⟨i1, i2, i3, fun z hz y hy => ?_, ?_⟩ (by rw [List.length_append, List.length_singleton]; omega)
        · rcases List.mem_append.mp hz with hz | hz
          · rw [e1, List.map_append]
            exact List.mem_append_left _ (B.cl z hz y hy)
          · obtain rfl := List.mem_singleton.mp hz
            obtain ⟨p, hp, rfl⟩ := nbrs_of_adj hy
            exact e2 _ (List.mem_map.mpr ⟨p, hp, rfl⟩)
        · rw [e1, List.map_append]
          exact List.mem_append_left _ B.ha
theorem GT.pthO (G : GT T) {a b : Str} (ha : a ∈ T.names) (hb : b ∈ T.names) : TM.pthO T.es a b = some (pth T.es a b) ∧ SP (Adj T.es) a b (pth T.es a b) := by
  obtain ⟨l, e, h⟩ := G.bfs_ok ha hb 14 [] [(a, [a])] [a] ⟨rfl, by simp, fun p hp => by
    obtain rfl := List.mem_singleton.mp hp
    exact ⟨.one a, fun y hy => hy⟩, fun x hx => by simp at hx, by simp⟩ (by simp)
  have e' : TM.pthO T.es a b = some l := e
  unfold pth
  rw [e']
  exact ⟨rfl, h⟩
theorem GT.sp (G : GT T) {a b : Str} (ha : a ∈ T.names) (hb : b ∈ T.names) : SP (Adj T.es) a b (pth T.es a b) := (G.pthO ha hb).2
end
end TM
-- text TmC
/-! sides, needed edges, lengths; own work -/
set_option linter.all false
namespace TM
open PySem PySem.W

def lenb (es : List Ed) (x y : Str) : Int := (((nbrs es x).filter fun p => decide (p.1 = y)).map (·.2)).headD 0
def segs (es : List Ed) : List Str → List Int
  | x :: y :: l => lenb es x y :: segs es (y :: l)
  | _ => []
def dist (es : List Ed) (a b : Str) : Int := (segs es (pth es a b)).sum
def edgeOf (x y : Str) : Str × Str := (if DatumOrd.lt y x = true then y else x, if DatumOrd.lt x y = true then y else x)
def nearOf (T : Tr) (a b : Str) : List Str := T.names.filter fun x => decide (b ∉ pth T.es a x)
def farOf (T : Tr) (a b : Str) : List Str := T.names.filter fun x => decide (x ∉ nearOf T a b)
def beyond (T : Tr) (a b start : Str) : List Str := if start ∈ nearOf T a b then farOf T a b else nearOf T a b
def needE (T : Tr) (start : Str) (wanted : List Str) : List Ed := T.es.filter fun e => wanted.any fun w => decide (w ∈ beyond T e.a e.b start)
def needed (T : Tr) (start : Str) (wanted : List Str) : List (Str × Str) := (needE T start wanted).map fun e => (e.a, e.b)
def elook (es : List Ed) (k : Str × Str) : Option Int := (es.find? fun e => decide ((e.a, e.b) = k)).map (·.c)
def wsum (es : List Ed) : List Str → Option Int
  | x :: y :: l => match elook es (edgeOf x y), wsum es (y :: l) with
    | some c, some t => some (c + t)
    | _, _ => none
  | _ => some 0

theorem slt_asymm {x y : Str} (h : DatumOrd.lt x y = true) : DatumOrd.lt y x = false := by
  have h1 : x.cps.toList < y.cps.toList := of_decide_eq_true h
  exact decide_eq_false (List.lt_asymm h1)
theorem slt_irrefl (x : Str) : DatumOrd.lt x x = false := decide_eq_false (List.lt_irrefl _)
theorem edgeOf_lt {x y : Str} (h : DatumOrd.lt x y = true) : edgeOf x y = (x, y) ∧ edgeOf y x = (x, y) := by
  unfold edgeOf
  rw [slt_asymm h, h]
  exact ⟨rfl, rfl⟩

theorem wsum_app {es : List Ed} {x y : Str} {q : List Str} {s t c : Int} : ∀ {p : List Str}, wsum es (p ++ [x]) = some s → elook es (edgeOf x y) = some c → wsum es (y :: q) = some t → wsum es (p ++ x :: y :: q) = some (s + c + t)
  | [], hs, hc, ht => by
    have e : (0 : Int) = s := Option.some.inj hs
    show (match elook es (edgeOf x y), wsum es (y :: q) with | some c, some t => some (c + t) | _, _ => none) = _
    rw [hc, ht, ← e]
    simp
  | [z], hs, hc, ht => by
    have hs' : (match elook es (edgeOf z x), wsum es [x] with | some c, some t => some (c + t) | _, _ => none) = some s := hs
    have h0 : wsum es [x] = some 0 := rfl
    rw [h0] at hs'
    show (match elook es (edgeOf z x), wsum es (x :: y :: q) with | some c, some t => some (c + t) | _, _ => none) = _
    have h1 := wsum_app (es := es) (x := x) (y := y) (q := q) (p := []) h0 hc ht
    rw [List.nil_append] at h1
    rw [h1]
    cases e : elook es (edgeOf z x) with
    | none => rw [e] at hs'; simp at hs'
    | some d =>
      rw [e] at hs'
      have := Option.some.inj hs'
      simp only []
      congr 1
      omega
  | z :: z2 :: p, hs, hc, ht => by
    have hs' : (match elook es (edgeOf z z2), wsum es (z2 :: (p ++ [x])) with | some c, some t => some (c + t) | _, _ => none) = some s := hs
    show (match elook es (edgeOf z z2), wsum es (z2 :: (p ++ x :: y :: q)) with | some c, some t => some (c + t) | _, _ => none) = _
    cases e : elook es (edgeOf z z2) with
    | none => rw [e] at hs'; simp at hs'
    | some d =>
      rw [e] at hs'
      cases e2 : wsum es (z2 :: (p ++ [x])) with
      | none => rw [e2] at hs'; simp at hs'
      | some s2 =>
        rw [e2] at hs'
        have := Option.some.inj hs'
        have h1 := wsum_app (es := es) (p := z2 :: p) e2 hc ht
        rw [List.cons_append] at h1
        rw [h1]
        simp only []
        congr 1
        omega

section
variable {T : Tr}
theorem key_inj : ∀ {es : List Ed}, (es.map fun e => (e.a, e.b)).Nodup → ∀ {e e' : Ed}, e ∈ es → e' ∈ es → e.a = e'.a → e.b = e'.b → e = e'
  | [], _, _, _, h, _, _, _ => by simp at h
  | d :: es, hn, e, e', h, h', h1, h2 => by
    rw [List.map_cons, List.nodup_cons] at hn
    have no : ∀ z ∈ es, z.a = d.a → z.b = d.b → False := fun z hz e1 e2 => hn.1 ((List.mem_map (f := fun e : Ed => (e.a, e.b))).mpr ⟨z, hz, by show (z.a, z.b) = (d.a, d.b); rw [e1, e2]⟩)
    rcases List.mem_cons.mp h with q | q
    · rcases List.mem_cons.mp h' with q' | q'
      · rw [q, q']
      · exact (no e' q' (by rw [← h1, q]) (by rw [← h2, q])).elim
    · rcases List.mem_cons.mp h' with q' | q'
      · exact (no e q (by rw [h1, q']) (by rw [h2, q'])).elim
      · exact key_inj hn.2 q q' h1 h2
theorem GT.elook (G : GT T) {e : Ed} (h : e ∈ T.es) : TM.elook T.es (e.a, e.b) = some e.c := by
  unfold TM.elook
  cases f : T.es.find? fun d => decide ((d.a, d.b) = (e.a, e.b)) with
  | none =>
    have := List.find?_eq_none.mp f e h
    simp at this
  | some d =>
    have h1 := List.find?_some f
    have h2 := List.mem_of_find?_eq_some f
    have h3 : (d.a, d.b) = (e.a, e.b) := of_decide_eq_true h1
    have h4 := key_inj G.keys h2 h (congrArg Prod.fst h3) (congrArg Prod.snd h3)
    rw [h4]
    rfl
/-- the edge between two neighbors -/
theorem GT.edge (G : GT T) {x y : Str} (h : Adj T.es x y) : ∃ e ∈ T.es, edgeOf x y = (e.a, e.b) ∧ edgeOf y x = (e.a, e.b) ∧ lenb T.es x y = e.c ∧ lenb T.es y x = e.c ∧ ((e.a = x ∧ e.b = y) ∨ (e.a = y ∧ e.b = x)) := by
  obtain ⟨e, he, h⟩ := h
  have hl := G.ord e he
  have key : ∀ (x y : Str), ((e.a = x ∧ e.b = y) ∨ (e.a = y ∧ e.b = x)) → lenb T.es x y = e.c := by
    intro x y h
    have all : ∀ p ∈ (nbrs T.es x).filter (fun p => decide (p.1 = y)), p.2 = e.c := by
      intro p hp
      obtain ⟨hp1, hp2⟩ := List.mem_filter.mp hp
      have hy : p.1 = y := of_decide_eq_true hp2
      obtain ⟨d, hd, hdx⟩ := mem_nbrs.mp hp1
      have hdl := G.ord d hd
      have : d = e := by
        rcases hdx with ⟨d1, rfl⟩ | ⟨d1, rfl⟩ <;> rcases h with ⟨e1, e2⟩ | ⟨e1, e2⟩
        · exact key_inj G.keys hd he (by rw [d1, e1]) (by rw [e2]; exact hy)
        · exfalso
          have h3 : d.b = y := hy
          rw [d1, h3] at hdl
          rw [e1, e2] at hl
          rw [slt_asymm hdl] at hl
          exact absurd hl (by decide)
        · exfalso
          have h3 : d.a = y := hy
          rw [d1, h3] at hdl
          rw [e1, e2] at hl
          rw [slt_asymm hdl] at hl
          exact absurd hl (by decide)
        · exact key_inj G.keys hd he (by rw [e1]; exact hy) (by rw [d1, e2])
      subst this
      rcases hdx with ⟨_, rfl⟩ | ⟨_, rfl⟩ <;> rfl
    obtain ⟨p, hp, hpy⟩ := nbrs_of_adj (es := T.es) (x := x) (y := y) ⟨e, he, h⟩
    have hm : p ∈ (nbrs T.es x).filter (fun p => decide (p.1 = y)) := List.mem_filter.mpr ⟨hp, decide_eq_true hpy⟩
    unfold lenb
    cases f : (nbrs T.es x).filter (fun p => decide (p.1 = y)) with
    | nil => rw [f] at hm; simp at hm
    | cons p2 r =>
      rw [List.map_cons, List.headD_cons]
      exact all p2 (by rw [f]; exact List.mem_cons_self)
  refine ⟨e, he, ?_, ?_, key x y h, key y x h.symm, h⟩
  · rcases h with ⟨rfl, rfl⟩ | ⟨rfl, rfl⟩
    · exact (edgeOf_lt hl).1
    · exact (edgeOf_lt hl).2
  · rcases h with ⟨rfl, rfl⟩ | ⟨rfl, rfl⟩
    · exact (edgeOf_lt hl).2
    · exact (edgeOf_lt hl).1
theorem GT.elook_adj (G : GT T) {x y : Str} (h : Adj T.es x y) : TM.elook T.es (edgeOf x y) = some (lenb T.es x y) := by
  obtain ⟨e, he, h1, _, h2, _⟩ := G.edge h
  rw [h1, h2]
  exact G.elook he
theorem GT.lenb_sym (G : GT T) {x y : Str} (h : Adj T.es x y) : lenb T.es y x = lenb T.es x y := by
  obtain ⟨e, he, _, _, h2, h3, _⟩ := G.edge h
  rw [h2, h3]
theorem GT.dom (G : GT T) {x y : Str} (h : Adj T.es x y) : x ∈ T.names ∧ y ∈ T.names := ⟨G.uq.dom _ _ h, G.uq.dom _ _ h.sym⟩
theorem GT.self (G : GT T) {r : Str} (h : r ∈ T.names) : pth T.es r r = [r] := (G.sp h h).self
/-- the distance of neighbors is the length of their edge -/
theorem GT.dist_edge (G : GT T) {e : Ed} (h : e ∈ T.es) : dist T.es e.a e.b = e.c := by
  have ha : Adj T.es e.a e.b := ⟨e, h, .inl ⟨rfl, rfl⟩⟩
  have hd := G.dom ha
  have hp : pth T.es e.a e.b = [e.a, e.b] := G.uq.uniq _ _ _ _ (G.sp hd.1 hd.2) (G.uq.two ha)
  obtain ⟨d, hd1, hk, _, hl, _, _⟩ := G.edge ha
  have hk2 := (edgeOf_lt (G.ord e h)).1
  rw [hk2] at hk
  have : e = d := key_inj G.keys h hd1 (congrArg Prod.fst hk) (congrArg Prod.snd hk)
  unfold dist
  rw [hp]
  show lenb T.es e.a e.b + 0 = e.c
  rw [hl, this]
  omega

variable {r : Str}
/-- x lies beyond the edge, seen from r, if the path to it goes over the edge -/
theorem GT.beyond (G : GT T) {f s w : Str} (hr : r ∈ T.names) (hw : w ∈ T.names) (a : Adj T.es f s) :
    (pth T.es r s = pth T.es r f ++ [s] → (w ∈ beyond T f s r ↔ s ∈ pth T.es r w)) ∧ (pth T.es r f = pth T.es r s ++ [f] → (w ∈ TM.beyond T f s r ↔ f ∈ pth T.es r w)) := by
  obtain ⟨hf, hs⟩ := G.dom a
  have mn : ∀ x, x ∈ T.names → (x ∈ nearOf T f s ↔ s ∉ pth T.es f x) := fun x hx => by
    unfold nearOf
    rw [List.mem_filter]
    exact ⟨fun h => of_decide_eq_true h.2, fun h => ⟨hx, decide_eq_true h⟩⟩
  have mf : ∀ x, x ∈ T.names → (x ∈ farOf T f s ↔ s ∈ pth T.es f x) := fun x hx => by
    unfold farOf
    rw [List.mem_filter]
    constructor
    · intro h
      have h2 := of_decide_eq_true h.2
      rw [mn x hx] at h2
      exact Classical.not_not.mp h2
    · intro h
      refine ⟨hx, decide_eq_true ?_⟩
      rw [mn x hx]
      exact fun z => z h
  have hrf : pth T.es f r = (pth T.es r f).reverse := G.uq.uniq _ _ _ _ (G.sp hf hr) ((G.sp hr hf).rev G.uq.sym)
  constructor
  · intro e
    have hn : r ∈ nearOf T f s := (mn r hr).mpr (by
      rw [hrf, List.mem_reverse]
      intro z
      have := (G.sp hr hs).nd
      rw [e, List.nodup_append] at this
      exact this.2.2 s z s (by simp) rfl)
    unfold TM.beyond
    rw [if_pos hn, mf w hw]
    exact G.uq.side a (G.sp hr hf) (by rw [← e]; exact G.sp hr hs) (G.sp hr hw) (G.sp hf hw)
  · intro e
    have hn : r ∉ nearOf T f s := fun z => (mn r hr).mp z (by
      rw [hrf, List.mem_reverse, e]
      exact List.mem_append_left _ (G.sp hr hs).mem_r)
    unfold TM.beyond
    rw [if_neg hn, mn w hw]
    have h1 := G.uq.either a (G.sp hf hw) (G.sp hs hw)
    have h2 := G.uq.side a.sym (G.sp hr hs) (by rw [← e]; exact G.sp hr hf) (G.sp hr hw) (G.sp hs hw)
    rw [← h2, h1]
    exact Classical.not_not

/-- c hangs on x, seen from r -/
def Kid (T : Tr) (r x c : Str) : Prop := Adj T.es x c ∧ pth T.es r c = pth T.es r x ++ [c]
/-- c is on the way to some wanted node -/
def Nd (T : Tr) (r : Str) (wanted : List Str) (c : Str) : Prop := ∃ w ∈ wanted, c ∈ pth T.es r w

theorem mem_needed {T : Tr} {wanted : List Str} {k : Str × Str} : k ∈ needed T r wanted ↔ ∃ e ∈ T.es, (∃ w ∈ wanted, w ∈ beyond T e.a e.b r) ∧ (e.a, e.b) = k := by
  unfold needed needE
  rw [List.mem_map]
  constructor
  · rintro ⟨e, he, rfl⟩
    obtain ⟨h1, h2⟩ := List.mem_filter.mp he
    obtain ⟨w, hw, h3⟩ := List.any_eq_true.mp h2
    exact ⟨e, h1, ⟨w, hw, of_decide_eq_true h3⟩, rfl⟩
  · rintro ⟨e, he, ⟨w, hw, h3⟩, rfl⟩
    exact ⟨e, List.mem_filter.mpr ⟨he, List.any_eq_true.mpr ⟨w, hw, decide_eq_true h3⟩⟩, rfl⟩
theorem GT.kid_need (G : GT T) {wanted : List Str} (hr : r ∈ T.names) (hw : ∀ w ∈ wanted, w ∈ T.names) {x c : Str} (k : Kid T r x c) : edgeOf x c ∈ needed T r wanted ↔ Nd T r wanted c := by
  obtain ⟨e, he, h1, _, _, _, h2⟩ := G.edge k.1
  have main : (∃ w ∈ wanted, w ∈ TM.beyond T e.a e.b r) ↔ Nd T r wanted c := by
    have step : ∀ w ∈ wanted, (w ∈ TM.beyond T e.a e.b r ↔ c ∈ pth T.es r w) := fun w hm => by
      have b := G.beyond (r := r) hr (hw w hm) (show Adj T.es e.a e.b from ⟨e, he, .inl ⟨rfl, rfl⟩⟩)
      rcases h2 with ⟨ha, hb⟩ | ⟨ha, hb⟩
      · rw [ha, hb] at b ⊢
        exact b.1 k.2
      · rw [ha, hb] at b ⊢
        exact b.2 k.2
    constructor
    · rintro ⟨w, hm, h⟩
      exact ⟨w, hm, (step w hm).mp h⟩
    · rintro ⟨w, hm, h⟩
      exact ⟨w, hm, (step w hm).mpr h⟩
  rw [mem_needed, h1]
  constructor
  · rintro ⟨d, hd, h, hk⟩
    have : d = e := key_inj G.keys hd he (congrArg Prod.fst hk) (congrArg Prod.snd hk)
    subst this
    exact main.mp h
  · intro h
    exact ⟨e, he, main.mpr h, rfl⟩
end
end TM
-- text TmD
/-! the told walks; own work -/
set_option linter.all false
namespace TM
open PySem PySem.W

def lastOf (way : List Str) (x : Str) : Option Str := way[way.findIdx (fun y => decide (y = x)) + 1]?
def wcond (nd : List (Str × Str)) (x : Str) (came last : Option Str) (p : Str × Int) : Bool := decide (some p.1 ≠ came) && (decide (some p.1 ≠ last) && decide (edgeOf x p.1 ∈ nd))
def wloop (rec : Str → Option (List Str)) (nd : List (Str × Str)) (x : Str) (came last : Option Str) : List (Str × Int) → List Str → Option (List Str)
  | [], acc => some acc
  | p :: ps, acc => if wcond nd x came last p = true then (match rec p.1 with
      | none => none
      | some r => if (acc ++ r ++ [x]).length ≤ 1000 then wloop rec nd x came last ps (acc ++ r ++ [x]) else none) else wloop rec nd x came last ps acc
def wf (es : List Ed) (nd : List (Str × Str)) : Nat → Str → Option Str → List Str → Option (List Str)
  | 0, _, _, _ => none
  | n + 1, x, came, way => match wloop (fun o => wf es nd n o (some x) []) nd x came (lastOf way x) (nbrs es x) [x] with
    | none => none
    | some body => match lastOf way x with
      | none => some body
      | some l => match wf es nd n l (some x) way with
        | none => none
        | some r => if (body ++ r).length ≤ 1000 then some (body ++ r) else none

section
variable {T : Tr} {r : Str} {wanted : List Str}
def up (T : Tr) (r c : Str) : Int := lenb T.es ((pth T.es r c).dropLast.getLastD c) c
theorem GT.up (G : GT T) {x c : Str} (hr : r ∈ T.names) (k : Kid T r x c) : TM.up T r c = lenb T.es x c := by
  obtain ⟨p, e⟩ := (G.sp hr (G.dom k.1).1).last
  unfold TM.up
  rw [k.2, List.dropLast_concat, e, List.getLastD_concat]
/-- what a walk about x has walked: the kids that were gone to (ok), the nodes beyond (cs) -/
structure LI (T : Tr) (r : Str) (wanted : List Str) (x : Str) (ok : Str → Prop) (acc cs : List Str) : Prop where
  hd : ∃ t, acc = x :: t
  lt : ∃ t, acc = t ++ [x]
  sm : wsum T.es acc = some (2 * (cs.map (up T r)).sum)
  ln : acc.length = 1 + 2 * cs.length
  nd : cs.Nodup
  nm : ∀ y ∈ cs, y ∈ T.names
  me : ∀ y ∈ T.names, (y ∈ cs ↔ ∃ k, ok k ∧ k ∈ pth T.es r y ∧ Nd T r wanted y)
  al : ∀ y ∈ cs, y ∈ acc

theorem GT.below (G : GT T) (hr : r ∈ T.names) {c y : Str} (hc : c ∈ T.names) (hy : y ∈ T.names) : c ∈ pth T.es r y ↔ y = c ∨ ∃ k, Kid T r c k ∧ k ∈ pth T.es r y := by
  constructor
  · intro hm
    obtain ⟨q, e⟩ := G.uq.first (G.sp hr hy) (G.sp hr hc) hm
    obtain ⟨p, ep⟩ := (G.sp hr hc).last
    cases q with
    | nil =>
      left
      obtain ⟨p2, ep2⟩ := (G.sp hr hy).last
      rw [List.append_nil, ep, ep2] at e
      exact (List.cons.inj (List.append_inj' e rfl).2).1
    | cons k q =>
      right
      have e1 : pth T.es r y = p ++ c :: k :: q := by rw [e, ep]; simp
      have e2 : pth T.es r y = (p ++ [c]) ++ k :: q := by rw [e, ep]
      have s1 := G.sp hr hy
      have hk : k ∈ T.names := G.uq.sub s1 hr k (by rw [e1]; simp)
      have s2 : SP (Adj T.es) c y (c :: k :: q) := by
        rw [e1] at s1
        exact s1.suf
      have ha : Adj T.es c k := by
        cases s2 with
        | @cons _ b _ _ r1 h2 _ =>
          obtain ⟨t, e3⟩ := h2.head
          obtain rfl := (List.cons.inj e3).1
          exact r1
      refine ⟨k, ⟨ha, ?_⟩, by rw [e1]; simp⟩
      have s3 : SP (Adj T.es) r k ((p ++ [c]) ++ [k]) := by
        have s1 := G.sp hr hy
        rw [e2] at s1
        exact s1.pre
      rw [G.uq.uniq _ _ _ _ (G.sp hr hk) s3, ep]
  · rintro (rfl | ⟨k, hk, hm⟩)
    · exact (G.sp hr hy).mem_r
    · obtain ⟨q, e⟩ := G.uq.first (G.sp hr hy) (G.sp hr (G.dom hk.1).2) hm
      rw [e, hk.2]
      exact List.mem_append_left _ (List.mem_append_left _ (G.sp hr hc).mem_r)
theorem GT.kid_eq (G : GT T) (hr : r ∈ T.names) {x c k y : Str} (hy : y ∈ T.names) (h1 : Kid T r x c) (h2 : Kid T r x k) (m1 : c ∈ pth T.es r y) (m2 : k ∈ pth T.es r y) : c = k := by
  obtain ⟨q1, e1⟩ := G.uq.first (G.sp hr hy) (G.sp hr (G.dom h1.1).2) m1
  obtain ⟨q2, e2⟩ := G.uq.first (G.sp hr hy) (G.sp hr (G.dom h2.1).2) m2
  rw [e1, h1.2, h2.2, List.append_assoc, List.append_assoc] at e2
  exact (List.cons.inj (List.append_cancel_left e2)).1
theorem GT.few (G : GT T) {cs : List Str} (nd : cs.Nodup) (nm : ∀ y ∈ cs, y ∈ T.names) : cs.length ≤ 12 := by
  have h1 := nd.length_le_of_subset (fun x hx => nm x hx)
  have h2 : T.names.length = T.ns.length := List.length_map ..
  have := G.len
  omega
theorem sum_app (f : Str → Int) (c : Str) (as bs : List Str) : ((as ++ c :: bs).map f).sum = (as.map f).sum + (f c + (bs.map f).sum) := by
  rw [List.map_append, List.sum_append, List.map_cons, List.sum_cons]
/-- to a kid and back -/
theorem LI.add (G : GT T) (hr : r ∈ T.names) {x c : Str} {ok : Str → Prop} {acc cs res cs1 : List Str} (I : LI T r wanted x ok acc cs) (k : Kid T r x c) (hn : Nd T r wanted c) (no : ¬ ok c) (ok2 : ∀ k, ok k → Kid T r x k)
    (J : LI T r wanted c (Kid T r c) res cs1) : LI T r wanted x (fun k => ok k ∨ k = c) (acc ++ res ++ [x]) (cs ++ c :: cs1) := by
  obtain ⟨t, ht⟩ := I.hd
  obtain ⟨t2, ht2⟩ := I.lt
  obtain ⟨u, hu⟩ := J.hd
  obtain ⟨u2, hu2⟩ := J.lt
  have hc := (G.dom k.1).2
  have inC : ∀ y, y ∈ c :: cs1 → y ∈ T.names ∧ c ∈ pth T.es r y ∧ Nd T r wanted y := by
    intro y hy
    rcases List.mem_cons.mp hy with rfl | hy
    · exact ⟨hc, (G.sp hr hc).mem_r, hn⟩
    · have hyn := J.nm y hy
      obtain ⟨k2, h1, h2, h3⟩ := (J.me y hyn).mp hy
      exact ⟨hyn, (G.below hr hc hyn).mpr (.inr ⟨k2, h1, h2⟩), h3⟩
  have cnot : c ∉ cs1 := fun z => by
    obtain ⟨k2, h1, h2, _⟩ := (J.me c hc).mp z
    have h3 : k2 ∈ pth T.es r k2 := (G.sp hr (G.dom h1.1).2).mem_r
    have h4 := (G.sp hr (G.dom h1.1).2).nd
    obtain ⟨q, e⟩ := G.uq.first (G.sp hr hc) (G.sp hr (G.dom h1.1).2) h2
    have h5 := congrArg List.length e
    rw [h1.2, List.length_append, List.length_append, List.length_singleton] at h5
    omega
  refine ⟨⟨t ++ res ++ [x], by rw [ht]; simp⟩, ⟨acc ++ res, rfl⟩, ?_, ?_, ?_, ?_, ?_, ?_⟩
  · have e1 : wsum T.es (t2 ++ x :: c :: u) = some (2 * (cs.map (TM.up T r)).sum + lenb T.es x c + 2 * (cs1.map (TM.up T r)).sum) :=
      wsum_app (by rw [← ht2]; exact I.sm) (G.elook_adj k.1) (by rw [← hu]; exact J.sm)
    have e2 : acc ++ res = (acc ++ u2) ++ [c] := by rw [hu2]; simp
    have e3 : wsum T.es ((acc ++ u2) ++ [c]) = some (2 * (cs.map (TM.up T r)).sum + lenb T.es x c + 2 * (cs1.map (TM.up T r)).sum) := by
      rw [← e2, ← e1, ht2, hu]
      simp
    have e4 := wsum_app (q := []) e3 (G.elook_adj k.1.sym) (show wsum T.es [x] = some 0 from rfl)
    have e5 : acc ++ res ++ [x] = (acc ++ u2) ++ c :: x :: [] := by rw [e2]; simp
    rw [e5, e4, sum_app, G.up hr k, G.lenb_sym k.1]
    congr 1
    omega
  · have h1 := I.ln
    have h2 := J.ln
    simp only [List.length_append, List.length_cons, List.length_nil]
    omega
  · rw [List.nodup_append]
    refine ⟨I.nd, List.nodup_cons.mpr ⟨cnot, J.nd⟩, fun y hy z hz e => ?_⟩
    subst e
    obtain ⟨k2, h1, h2, _⟩ := (I.me y (I.nm y hy)).mp hy
    have h3 := (inC y hz).2.1
    have := G.kid_eq hr (I.nm y hy) k (ok2 _ h1) h3 h2
    rw [← this] at h1
    exact no h1
  · intro y hy
    rcases List.mem_append.mp hy with hy | hy
    · exact I.nm y hy
    · exact (inC y hy).1
  · intro y hyn
    rw [List.mem_append, I.me y hyn, List.mem_cons, J.me y hyn]
    constructor
    · rintro (⟨k2, h1, h2⟩ | h)
      · exact ⟨k2, .inl h1, h2⟩
      · refine ⟨c, .inr rfl, ?_⟩
        rcases h with rfl | ⟨k2, h1, h2, h3⟩
        · exact ⟨(G.sp hr hyn).mem_r, hn⟩
        · exact ⟨(G.below hr hc hyn).mpr (.inr ⟨k2, h1, h2⟩), h3⟩
    · rintro ⟨k2, h1 | rfl, h2, h3⟩
      · exact .inl ⟨k2, h1, h2, h3⟩
      · right
        rcases (G.below hr hc hyn).mp h2 with h | ⟨k3, h4, h5⟩
        · exact .inl h
        · exact .inr ⟨k3, h4, h5, h3⟩
  · intro y hy
    rcases List.mem_append.mp hy with hy | hy
    · exact List.mem_append_left _ (List.mem_append_left _ (I.al y hy))
    · refine List.mem_append_left _ (List.mem_append_right _ ?_)
      rcases List.mem_cons.mp hy with rfl | hy
      · rw [hu]; exact List.mem_cons_self
      · exact J.al y hy
theorem LI.short (G : GT T) {x : Str} {ok : Str → Prop} {acc cs : List Str} (I : LI T r wanted x ok acc cs) : acc.length ≤ 25 := by
  have h1 := G.few I.nd I.nm
  have h2 := I.ln
  omega
theorem LI.iff {x : Str} {ok ok2 : Str → Prop} {acc cs : List Str} (I : LI T r wanted x ok acc cs) (e : ∀ k, ok k ↔ ok2 k) : LI T r wanted x ok2 acc cs := by
  have : ok = ok2 := funext fun k => propext (e k)
  rw [← this]
  exact I
theorem wloop_ok (G : GT T) (hr : r ∈ T.names) {x : Str} {came last : Option Str} {nd : List (Str × Str)} {rec : Str → Option (List Str)} (hrec : ∀ c, Kid T r x c → ∃ res cs, rec c = some res ∧ LI T r wanted c (Kid T r c) res cs) :
    ∀ (ps : List (Str × Int)) (acc cs : List Str) (ok : Str → Prop), (∀ p ∈ ps, wcond nd x came last p = true → Kid T r x p.1 ∧ Nd T r wanted p.1) → LI T r wanted x ok acc cs → (ps.map (·.1)).Nodup → (∀ p ∈ ps, ¬ ok p.1) → (∀ k, ok k → Kid T r x k) →
    ∃ acc' cs', wloop rec nd x came last ps acc = some acc' ∧ LI T r wanted x (fun k => ok k ∨ ∃ p ∈ ps, wcond nd x came last p = true ∧ p.1 = k) acc' cs'
  | [], acc, cs, ok, _, I, _, _, _ => ⟨acc, cs, rfl, I.iff fun k => by simp⟩
  | p :: ps, acc, cs, ok, hp, I, hnd, hno, hok => by
    rw [List.map_cons, List.nodup_cons] at hnd
    unfold wloop
    by_cases hc : wcond nd x came last p = true
    · rw [if_pos hc]
      obtain ⟨k, hn⟩ := hp p List.mem_cons_self hc
      obtain ⟨res, cs1, e, J⟩ := hrec p.1 k
      rw [e]
      have I2 := I.add G hr k hn (hno p List.mem_cons_self) hok J
      simp only []
      rw [if_pos (Nat.le_trans (I2.short G) (by decide))]
      obtain ⟨acc', cs', e2, I3⟩ := wloop_ok G hr hrec ps _ _ _ (fun q hq => hp q (List.mem_cons_of_mem _ hq)) I2 hnd.2 (fun q hq => by
        rintro (z | z)
        · exact hno q (List.mem_cons_of_mem _ hq) z
        · exact hnd.1 (List.mem_map.mpr ⟨q, hq, z⟩)) (fun k2 h => by
        rcases h with h | rfl
        · exact hok _ h
        · exact k)
      refine ⟨acc', cs', e2, I3.iff fun k2 => ?_⟩
      constructor
      · rintro ((h | rfl) | ⟨q, hq, h⟩)
        · exact .inl h
        · exact .inr ⟨p, List.mem_cons_self, hc, rfl⟩
        · exact .inr ⟨q, List.mem_cons_of_mem _ hq, h⟩
      · rintro (h | ⟨q, hq, h, e3⟩)
        · exact .inl (.inl h)
        · rcases List.mem_cons.mp hq with rfl | hq
          · exact .inl (.inr e3.symm)
          · exact .inr ⟨q, hq, h, e3⟩
    · rw [if_neg hc]
      obtain ⟨acc', cs', e2, I3⟩ := wloop_ok G hr hrec ps acc cs ok (fun q hq => hp q (List.mem_cons_of_mem _ hq)) I hnd.2 (fun q hq => hno q (List.mem_cons_of_mem _ hq)) hok
      refine ⟨acc', cs', e2, I3.iff fun k2 => ?_⟩
      constructor
      · rintro (h | ⟨q, hq, h⟩)
        · exact .inl h
        · exact .inr ⟨q, List.mem_cons_of_mem _ hq, h⟩
      · rintro (h | ⟨q, hq, h, e3⟩)
        · exact .inl h
        · rcases List.mem_cons.mp hq with rfl | hq
          · exact absurd h hc
          · exact .inr ⟨q, hq, h, e3⟩

/-- where one came from: all other neighbors hang on x -/
def CameOk (T : Tr) (r x : Str) (came : Option Str) : Prop := ∀ y, Adj T.es x y → (some y ≠ came ↔ Kid T r x y)
theorem GT.came0 (G : GT T) (hr : r ∈ T.names) : CameOk T r r none := by
  intro y ha
  refine ⟨fun _ => ⟨ha, ?_⟩, fun _ => by simp⟩
  rcases G.uq.hang ha (G.sp hr hr) (G.sp hr (G.dom ha).2) with h | h
  · exact h
  · exfalso
    have h1 := (G.sp hr (G.dom ha).2).ne
    have h2 := congrArg List.length h
    rw [G.self hr, List.length_append, List.length_singleton] at h2
    have h3 := List.length_pos_iff.mpr h1
    omega
theorem GT.came1 (G : GT T) (hr : r ∈ T.names) {x c : Str} (k : Kid T r x c) : CameOk T r c (some x) := by
  intro y ha
  constructor
  · intro hne
    refine ⟨ha, ?_⟩
    rcases G.uq.hang ha (G.sp hr (G.dom ha).1) (G.sp hr (G.dom ha).2) with h | h
    · exact h
    · exfalso
      rw [k.2] at h
      have h2 := (List.append_inj' h rfl).1
      obtain ⟨p, e1⟩ := (G.sp hr (G.dom k.1).1).last
      obtain ⟨p2, e2⟩ := (G.sp hr (G.dom ha).2).last
      rw [e1, e2] at h2
      have h3 := (List.cons.inj (List.append_inj' h2 rfl).2).1
      exact hne (by rw [h3])
  · intro k2 e
    have e' : y = x := Option.some.inj e
    subst e'
    have h1 := congrArg List.length k.2
    have h2 := congrArg List.length k2.2
    rw [List.length_append, List.length_singleton] at h1 h2
    omega
theorem flat_nodup {x : Str} : ∀ {es : List Ed}, (es.map fun e => (e.a, e.b)).Nodup → (∀ e ∈ es, DatumOrd.lt e.a e.b = true) → ((es.flatMap (nb1 x)).map (·.1)).Nodup
  | [], _, _ => by simp
  | e :: es, hn, ho => by
    have ho1 := ho e List.mem_cons_self
    rw [List.map_cons, List.nodup_cons] at hn
    have ih := flat_nodup (x := x) hn.2 (fun d hd => ho d (List.mem_cons_of_mem _ hd))
    have other : ∀ d ∈ es, ∀ y, ((e.a = x ∧ y = e.b) ∨ (e.b = x ∧ y = e.a)) → ((d.a = x ∧ y = d.b) ∨ (d.b = x ∧ y = d.a)) → False := by
      intro d hd y h1 h2
      have ho2 := ho d (List.mem_cons_of_mem _ hd)
      have no : d.a = e.a → d.b = e.b → False := fun e1 e2 => hn.1 ((List.mem_map (f := fun e : Ed => (e.a, e.b))).mpr ⟨d, hd, by show (d.a, d.b) = (e.a, e.b); rw [e1, e2]⟩)
      rcases h1 with ⟨p1, p2⟩ | ⟨p1, p2⟩ <;> rcases h2 with ⟨q1, q2⟩ | ⟨q1, q2⟩
      · exact no (by rw [q1, p1]) (by rw [← q2, p2])
      · rw [p1, ← p2] at ho1
        rw [q1, ← q2] at ho2
        rw [slt_asymm ho1] at ho2
        exact absurd ho2 (by decide)
      · rw [p1, ← p2] at ho1
        rw [q1, ← q2] at ho2
        rw [slt_asymm ho1] at ho2
        exact absurd ho2 (by decide)
      · exact no (by rw [← q2, p2]) (by rw [q1, p1])
    rw [List.flatMap_cons, List.map_append, List.nodup_append]
    refine ⟨?_, ih, ?_⟩
    · unfold nb1
      by_cases h1 : e.a = x <;> by_cases h2 : e.b = x
      · exfalso
        rw [h1, h2, slt_irrefl] at ho1
        exact absurd ho1 (by decide)
      · simp [h1, h2]
      · simp [h1, h2]
      · simp [h1, h2]
    · intro y hy z hz eq
      subst eq
      obtain ⟨p, hp, e1⟩ := List.mem_map.mp hy
      obtain ⟨q, hq, e2⟩ := List.mem_map.mp hz
      obtain ⟨d, hd, hq⟩ := List.mem_flatMap.mp hq
      refine other d hd y ?_ ?_
      · rcases mem_nb1.mp hp with ⟨h, rfl⟩ | ⟨h, rfl⟩
        · exact .inl ⟨h, e1.symm⟩
        · exact .inr ⟨h, e1.symm⟩
      · rcases mem_nb1.mp hq with ⟨h, rfl⟩ | ⟨h, rfl⟩
        · exact .inl ⟨h, e2.symm⟩
        · exact .inr ⟨h, e2.symm⟩
theorem GT.nbrs_nodup (G : GT T) (x : Str) : ((nbrs T.es x).map (·.1)).Nodup := by
  have h := flat_nodup (x := x) G.keys G.ord
  exact ((srt2_perm _).map _).nodup_iff.mpr h

theorem wcond_iff {nd : List (Str × Str)} {x : Str} {came last : Option Str} {p : Str × Int} : wcond nd x came last p = true ↔ some p.1 ≠ came ∧ some p.1 ≠ last ∧ edgeOf x p.1 ∈ nd := by
  unfold wcond
  rw [Bool.and_eq_true, Bool.and_eq_true, decide_eq_true_eq, decide_eq_true_eq, decide_eq_true_eq]
/-- the loop at x, with what the calls hand back -/
theorem GT.loop (G : GT T) (hr : r ∈ T.names) (hw : ∀ w ∈ wanted, w ∈ T.names) {x : Str} (hx : x ∈ T.names) {came last : Option Str} (co : CameOk T r x came) {rec : Str → Option (List Str)}
    (hrec : ∀ c, Kid T r x c → ∃ res cs, rec c = some res ∧ LI T r wanted c (Kid T r c) res cs) :
    ∃ acc cs, wloop rec (needed T r wanted) x came last (nbrs T.es x) [x] = some acc ∧ LI T r wanted x (fun k => Kid T r x k ∧ some k ≠ last ∧ Nd T r wanted k) acc cs := by
  have key : ∀ p ∈ nbrs T.es x, (wcond (needed T r wanted) x came last p = true ↔ Kid T r x p.1 ∧ some p.1 ≠ last ∧ Nd T r wanted p.1) := by
    intro p hp
    have ha := adj_of_nbrs hp
    rw [wcond_iff, co p.1 ha]
    constructor
    · rintro ⟨h1, h2, h3⟩
      exact ⟨h1, h2, (G.kid_need hr hw h1).mp h3⟩
    · rintro ⟨h1, h2, h3⟩
      exact ⟨h1, h2, (G.kid_need hr hw h1).mpr h3⟩
  have I0 : LI T r wanted x (fun _ => False) [x] [] := ⟨⟨[], rfl⟩, ⟨[], rfl⟩, rfl, rfl, List.nodup_nil, fun y hy => by simp at hy, fun y _ => by simp, fun y hy => by simp at hy⟩
  obtain ⟨acc, cs, e, I⟩ := wloop_ok G hr (came := came) (last := last) (nd := needed T r wanted) hrec (nbrs T.es x) [x] [] _ (fun p hp hc => ⟨((key p hp).mp hc).1, ((key p hp).mp hc).2.2⟩) I0 (G.nbrs_nodup x) (fun _ _ z => z) (fun _ z => z.elim)
  refine ⟨acc, cs, e, I.iff fun k => ?_⟩
  constructor
  · rintro (h | ⟨p, hp, hc, rfl⟩)
    · exact h.elim
    · exact (key p hp).mp hc
  · intro h
    obtain ⟨p, hp, rfl⟩ := nbrs_of_adj h.1.1
    exact .inr ⟨p, hp, (key p hp).mpr h, rfl⟩
theorem Nd.up (G : GT T) (hr : r ∈ T.names) (hw : ∀ w ∈ wanted, w ∈ T.names) {k y : Str} (hk : k ∈ T.names) (hy : y ∈ T.names) (h : Nd T r wanted y) (m : k ∈ pth T.es r y) : Nd T r wanted k := by
  obtain ⟨w, hm, h⟩ := h
  obtain ⟨q, e⟩ := G.uq.first (G.sp hr (hw w hm)) (G.sp hr hy) h
  exact ⟨w, hm, by rw [e]; exact List.mem_append_left _ m⟩
theorem lastOf_nil (x : Str) : lastOf [] x = none := by
  unfold lastOf
  simp
/-- the round's part at x: without a way, or at the way's end -/
theorem GT.round (G : GT T) (hr : r ∈ T.names) (hw : ∀ w ∈ wanted, w ∈ T.names) : ∀ (n : Nat) (x : Str) (came : Option Str) (way : List Str), x ∈ T.names → CameOk T r x came → lastOf way x = none → 13 ≤ n + (pth T.es r x).length →
    ∃ res cs, wf T.es (needed T r wanted) n x came way = some res ∧ LI T r wanted x (Kid T r x) res cs := by
  intro n
  induction n with
  | zero =>
    intro x came way hx _ _ hn
    have := G.short (G.sp hr hx) hr
    omega
  | succ n ih =>
    intro x came way hx co hl hn
    obtain ⟨acc, cs, e, I⟩ := G.loop hr hw hx (last := none) co (rec := fun o => wf T.es (needed T r wanted) n o (some x) []) (fun c k => ih c (some x) [] (G.dom k.1).2 (G.came1 hr k) (lastOf_nil c) (by
      rw [k.2, List.length_append, List.length_singleton]
      omega))
    refine ⟨acc, cs, ?_, ⟨I.hd, I.lt, I.sm, I.ln, I.nd, I.nm, fun y hy => ?_, I.al⟩⟩
    · unfold wf
      rw [hl, e]
    · rw [I.me y hy]
      constructor
      · rintro ⟨k, ⟨h1, _, _⟩, h2⟩
        exact ⟨k, h1, h2⟩
      · rintro ⟨k, h1, h2, h3⟩
        exact ⟨k, ⟨h1, by simp, Nd.up G hr hw (G.dom h1.1).2 hy h3 h2⟩, h2, h3⟩

/-- a trip's part at x, up to the end z -/
structure LT (T : Tr) (r : Str) (wanted : List Str) (x z : Str) (res cs : List Str) (d : Int) : Prop where
  hd : ∃ t, res = x :: t
  lt : ∃ t, res = t ++ [z]
  sm : wsum T.es res = some (2 * (cs.map (up T r)).sum - d)
  ln : res.length ≤ 1 + 2 * cs.length
  nd : cs.Nodup
  nm : ∀ y ∈ cs, y ∈ T.names
  me : ∀ y ∈ T.names, (y ∈ cs ↔ ∃ k, Kid T r x k ∧ k ∈ pth T.es r y ∧ Nd T r wanted y)
  al : ∀ y ∈ cs, y ∈ res
theorem lastOf_at {p q : List Str} {x : Str} (h : x ∉ p) : lastOf (p ++ x :: q) x = q.head? := by
  unfold lastOf
  have h1 : (p ++ x :: q).findIdx (fun y => decide (y = x)) = p.length := by
    rw [List.findIdx_append]
    have h2 : p.findIdx (fun y => decide (y = x)) = p.length := by
      rw [List.findIdx_eq_length]
      intro y hy
      exact decide_eq_false (fun e => h (e ▸ hy))
    rw [h2, if_neg (Nat.lt_irrefl _), List.findIdx_cons, decide_eq_true rfl]
    exact Nat.zero_add _
  rw [h1, List.getElem?_append_right (by omega)]
  have h3 : p.length + 1 - p.length = 1 := by omega
  rw [h3]
  cases q <;> simp
theorem GT.trip (G : GT T) (hr : r ∈ T.names) (hw : ∀ w ∈ wanted, w ∈ T.names) {z : Str} (hz : z ∈ T.names) : ∀ (n : Nat) (x : Str) (came : Option Str) (q : List Str), x ∈ T.names → CameOk T r x came → pth T.es r z = pth T.es r x ++ q → (q ≠ [] → z ∈ wanted) → 13 ≤ n + (pth T.es r x).length →
    ∃ res cs, wf T.es (needed T r wanted) n x came (pth T.es r z) = some res ∧ LT T r wanted x z res cs (segs T.es (x :: q)).sum := by
  intro n
  induction n with
  | zero =>
    intro x came q hx _ _ _ hn
    have := G.short (G.sp hr hx) hr
    omega
  | succ n ih =>
    intro x came q hx co hq hzw hn
    obtain ⟨p, ep⟩ := (G.sp hr hx).last
    have epz : pth T.es r z = p ++ x :: q := by rw [hq, ep]; simp
    have xp : x ∉ p := fun h => by
      have := (G.sp hr hx).nd
      rw [ep, List.nodup_append] at this
      exact this.2.2 x h x (by simp) rfl
    have hl : lastOf (pth T.es r z) x = q.head? := by rw [epz]; exact lastOf_at xp
    cases q with
    | nil =>
      obtain ⟨res, cs, e, I⟩ := G.round hr hw (n + 1) x came (pth T.es r z) hx co hl hn
      have exz : x = z := by
        obtain ⟨p2, e2⟩ := (G.sp hr hz).last
        rw [epz] at e2
        exact (List.cons.inj (List.append_inj' e2 rfl).2).1
      refine ⟨res, cs, e, I.hd, by rw [← exz]; exact I.lt, ?_, Nat.le_of_eq I.ln, I.nd, I.nm, I.me, I.al⟩
      rw [I.sm]
      congr 1
      show _ = _ - (segs T.es [x]).sum
      simp [segs]
    | cons l q =>
      have epz2 : pth T.es r z = (p ++ [x]) ++ l :: q := by rw [epz]; simp
      have sz := G.sp hr hz
      have hln : l ∈ T.names := G.uq.sub sz hr l (by rw [epz]; simp)
      have ha : Adj T.es x l := by
        have s2 : SP (Adj T.es) x z (x :: l :: q) := by
          rw [epz] at sz
          exact sz.suf
        cases s2 with
        | @cons _ b _ _ r1 h2 _ =>
          obtain ⟨t, e3⟩ := h2.head
          obtain rfl := (List.cons.inj e3).1
          exact r1
      have kl : Kid T r x l := by
        refine ⟨ha, ?_⟩
        have s3 : SP (Adj T.es) r l ((p ++ [x]) ++ [l]) := by
          have s1 := G.sp hr hz
          rw [epz2] at s1
          exact s1.pre
        rw [G.uq.uniq _ _ _ _ (G.sp hr hln) s3, ep]
      have hzm := hzw (by simp)
      have nl : Nd T r wanted l := ⟨z, hzm, by rw [epz]; simp⟩
      obtain ⟨acc, cs, e, I⟩ := G.loop hr hw hx (last := some l) co (rec := fun o => wf T.es (needed T r wanted) n o (some x) []) (fun c k => G.round hr hw n c (some x) [] (G.dom k.1).2 (G.came1 hr k) (lastOf_nil c) (by
        rw [k.2, List.length_append, List.length_singleton]
        omega))
      obtain ⟨res, cs1, e1, J⟩ := ih l (some x) q hln (G.came1 hr kl) (by rw [epz2, kl.2, ep]; simp) (fun _ => hzm) (by
        rw [kl.2, List.length_append, List.length_singleton]
        omega)
      obtain ⟨t2, ht2⟩ := I.lt
      obtain ⟨t1, ht1⟩ := I.hd
      obtain ⟨u, hu⟩ := J.hd
      obtain ⟨u2, hu2⟩ := J.lt
      have inC : ∀ y, y ∈ l :: cs1 → y ∈ T.names ∧ l ∈ pth T.es r y ∧ Nd T r wanted y := by
        intro y hy
        rcases List.mem_cons.mp hy with rfl | hy
        · exact ⟨hln, (G.sp hr hln).mem_r, nl⟩
        · have hyn := J.nm y hy
          obtain ⟨k2, h1, h2, h3⟩ := (J.me y hyn).mp hy
          exact ⟨hyn, (G.below hr hln hyn).mpr (.inr ⟨k2, h1, h2⟩), h3⟩
      have lnot : l ∉ cs1 := fun zz => by
        obtain ⟨k2, h1, h2, _⟩ := (J.me l hln).mp zz
        obtain ⟨q, e⟩ := G.uq.first (G.sp hr hln) (G.sp hr (G.dom h1.1).2) h2
        have h5 := congrArg List.length e
        rw [h1.2, List.length_append, List.length_append, List.length_singleton] at h5
        omega
      have nd2 : (cs ++ l :: cs1).Nodup := by
        rw [List.nodup_append]
        refine ⟨I.nd, List.nodup_cons.mpr ⟨lnot, J.nd⟩, fun y hy y2 hy2 eq => ?_⟩
        subst eq
        obtain ⟨k2, ⟨h1, h1b, _⟩, h2, _⟩ := (I.me y (I.nm y hy)).mp hy
        have h3 := (inC y hy2).2.1
        have := G.kid_eq hr (I.nm y hy) h1 kl h2 h3
        exact h1b (by rw [this])
      have nm2 : ∀ y ∈ cs ++ l :: cs1, y ∈ T.names := by
        intro y hy
        rcases List.mem_append.mp hy with hy | hy
        · exact I.nm y hy
        · exact (inC y hy).1
      have ln2 : (acc ++ res).length ≤ 1 + 2 * (cs ++ l :: cs1).length := by
        have h1 := I.ln
        have h2 := J.ln
        rw [List.length_append, List.length_append, List.length_cons]
        omega
      refine ⟨acc ++ res, cs ++ l :: cs1, ?_, ⟨t1 ++ res, by rw [ht1]; rfl⟩, ⟨acc ++ u2, by rw [hu2]; simp⟩, ?_, ln2, nd2, nm2, ?_, ?_⟩
      · unfold wf
        have hl' : lastOf (pth T.es r z) x = some l := hl
        rw [hl', e]
        simp only []
        rw [e1]
        simp only []
        rw [if_pos (by have := G.few nd2 nm2; omega)]
      · have e2 := wsum_app (es := T.es) (p := t2) (x := x) (y := l) (q := u) (by rw [← ht2]; exact I.sm) (G.elook_adj ha) (by rw [← hu]; exact J.sm)
        have e3 : acc ++ res = t2 ++ x :: l :: u := by rw [ht2, hu]; simp
        rw [e3, e2, sum_app, G.up hr kl]
        congr 1
        show _ = _ - (lenb T.es x l :: segs T.es (l :: q)).sum
        rw [List.sum_cons]
        omega
      · intro y hyn
        rw [List.mem_append, I.me y hyn, List.mem_cons, J.me y hyn]
        constructor
        · rintro (⟨k2, h1, h2⟩ | h)
          · exact ⟨k2, h1.1, h2⟩
          · refine ⟨l, kl, ?_⟩
            rcases h with rfl | ⟨k2, h1, h2, h3⟩
            · exact ⟨(G.sp hr hyn).mem_r, nl⟩
            · exact ⟨(G.below hr hln hyn).mpr (.inr ⟨k2, h1, h2⟩), h3⟩
        · rintro ⟨k2, h1, h2, h3⟩
          by_cases hk : k2 = l
          · right
            subst hk
            rcases (G.below hr hln hyn).mp h2 with h | ⟨k3, h4, h5⟩
            · exact .inl h
            · exact .inr ⟨k3, h4, h5, h3⟩
          · exact .inl ⟨k2, ⟨h1, fun eq => hk (Option.some.inj eq), Nd.up G hr hw (G.dom h1.1).2 hyn h3 h2⟩, h2, h3⟩
      · intro y hy
        rcases List.mem_append.mp hy with hy | hy
        · exact List.mem_append_left _ (I.al y hy)
        · refine List.mem_append_right _ ?_
          rcases List.mem_cons.mp hy with rfl | hy
          · rw [hu]; exact List.mem_cons_self
          · exact J.al y hy
end
end TM
-- text TmE
/-! the law, in plain words; own work -/
set_option linter.all false
namespace TM
open PySem PySem.W

def wfRound (T : Tr) (r : Str) (wanted : List Str) : Option (List Str) := wf T.es (needed T r wanted) 14 r none []
def roundOf (T : Tr) (r : Str) (wanted : List Str) : List Str := (wfRound T r wanted).getD []
def endStep (es : List Ed) (r : Str) (st : Str × Int) (x : Str) : Str × Int := if st.2 < dist es r x then (x, dist es r x) else st
def endOf (es : List Ed) (r : Str) (wanted : List Str) : Str := ((srtS wanted).foldl (endStep es r) (r, 0)).1
def wfTrip (T : Tr) (r : Str) (wanted : List Str) : Option (List Str) := wf T.es (needed T r wanted) 14 r none (pth T.es r (endOf T.es r wanted))
def tripOf (T : Tr) (r : Str) (wanted : List Str) : List Str := (wfTrip T r wanted).getD []
def minS : List Str → Str
  | [] => Str.empty
  | x :: xs => minOf x xs
def inBey (T : Tr) (r : Str) (k : Str × Str) (wanted : List Str) : List Str := wanted.filter fun w => decide (w ∈ beyond T k.1 k.2 r)
def reason (T : Tr) (r : Str) (wanted : List Str) : List ((Str × Str) × Str) := (needed T r wanted).map fun k => (k, minS (inBey T r k wanted))
def tot (T : Tr) (r : Str) (wanted : List Str) : Int := ((needed T r wanted).map fun k => dist T.es k.1 k.2).sum

/-! ### sorted texts -/
def sle (x y : Str) : Prop := x.cps.toList ≤ y.cps.toList
theorem sle_anti {x y : Str} (h : sle x y) (h2 : sle y x) : x = y := by
  have h3 : x.cps.toList = y.cps.toList := List.le_antisymm h h2
  cases x
  cases y
  congr 1
  exact Array.toList_inj.mp h3
theorem leS_eq : (dataLe false (Datum.toD : Str → PyData)) = fun a b => decide (a.cps.toList ≤ b.cps.toList) := dataLe_str (β := Str) id
theorem srtS_sorted (l : List Str) : (srtS l).Pairwise sle := by
  have h := List.pairwise_mergeSort (le := dataLe false (Datum.toD : Str → PyData)) (fun a b c => by
    rw [leS_eq]
    simp only [decide_eq_true_eq]
    exact fun h1 h2 => List.le_trans h1 h2) (fun a b => by
    rw [leS_eq]
    simp only [Bool.or_eq_true, decide_eq_true_eq]
    exact List.le_total _ _) l
  refine h.imp fun {a b} h => ?_
  rw [leS_eq] at h
  show a.cps.toList ≤ b.cps.toList
  exact of_decide_eq_true h
theorem minOf_spec : ∀ (xs : List Str) (x : Str), minOf x xs ∈ x :: xs ∧ ∀ y ∈ x :: xs, sle (minOf x xs) y
  | [], x => ⟨List.mem_cons_self, fun y hy => by rw [List.mem_singleton.mp hy]; exact List.le_refl _⟩
  | y :: ys, x => by
    have e : minOf x (y :: ys) = minOf (if DatumOrd.lt y x = true then y else x) ys := rfl
    rw [e]
    by_cases h : DatumOrd.lt y x = true
    · rw [if_pos h]
      obtain ⟨h1, h2⟩ := minOf_spec ys y
      have hyx : sle y x := List.le_of_lt (of_decide_eq_true h)
      refine ⟨List.mem_cons_of_mem _ h1, fun z hz => ?_⟩
      rcases List.mem_cons.mp hz with rfl | hz
      · exact List.le_trans (h2 y List.mem_cons_self) hyx
      · exact h2 z hz
    · rw [if_neg h]
      obtain ⟨h1, h2⟩ := minOf_spec ys x
      have hyx : sle x y := fun z => h (decide_eq_true z)
      refine ⟨?_, fun z hz => ?_⟩
      · rcases List.mem_cons.mp h1 with h1 | h1
        · rw [h1]; exact List.mem_cons_self
        · exact List.mem_cons_of_mem _ (List.mem_cons_of_mem _ h1)
      · rcases List.mem_cons.mp hz with rfl | hz
        · exact h2 z List.mem_cons_self
        · rcases List.mem_cons.mp hz with rfl | hz
          · exact List.le_trans (h2 x List.mem_cons_self) hyx
          · exact h2 z (List.mem_cons_of_mem _ hz)
theorem srtS_head {l : List Str} (h : l ≠ []) : (srtS l)[0]? = some (minS l) := by
  cases l with
  | nil => exact absurd rfl h
  | cons x xs =>
    obtain ⟨h1, h2⟩ := minOf_spec xs x
    cases e : srtS (x :: xs) with
    | nil =>
      have := (srtS_perm (x :: xs)).length_eq
      rw [e] at this
      simp at this
    | cons y ys =>
      have hs := srtS_sorted (x :: xs)
      rw [e] at hs
      have hy : y ∈ x :: xs := (srtS_perm (x :: xs)).mem_iff.mp (by rw [e]; exact List.mem_cons_self)
      have hm : minOf x xs ∈ y :: ys := by rw [← e]; exact (srtS_perm (x :: xs)).mem_iff.mpr h1
      have h3 : sle y (minOf x xs) := by
        rcases List.mem_cons.mp hm with hm | hm
        · rw [hm]; exact List.le_refl _
        · exact (List.pairwise_cons.mp hs).1 _ hm
      show some y = some (minOf x xs)
      rw [sle_anti h3 (h2 y hy)]

section
variable {T : Tr} {r : Str} {wanted : List Str}

/-- which end of an edge hangs on the other -/
def kidOf (T : Tr) (r : Str) (e : Ed) : Str := if pth T.es r e.b = pth T.es r e.a ++ [e.b] then e.b else e.a
theorem GT.kidOf (G : GT T) (hr : r ∈ T.names) {e : Ed} (he : e ∈ T.es) : (Kid T r e.a e.b ∧ kidOf T r e = e.b) ∨ (Kid T r e.b e.a ∧ kidOf T r e = e.a) := by
  have ha : Adj T.es e.a e.b := ⟨e, he, .inl ⟨rfl, rfl⟩⟩
  have hd := G.dom ha
  unfold TM.kidOf
  by_cases h : pth T.es r e.b = pth T.es r e.a ++ [e.b]
  · rw [if_pos h]
    exact .inl ⟨⟨ha, h⟩, rfl⟩
  · rw [if_neg h]
    refine .inr ⟨⟨ha.sym, ?_⟩, rfl⟩
    rcases G.uq.hang ha (G.sp hr hd.1) (G.sp hr hd.2) with h2 | h2
    · exact absurd h2 h
    · exact h2
theorem GT.up_kidOf (G : GT T) (hr : r ∈ T.names) {e : Ed} (he : e ∈ T.es) : TM.up T r (TM.kidOf T r e) = e.c := by
  have ha : Adj T.es e.a e.b := ⟨e, he, .inl ⟨rfl, rfl⟩⟩
  obtain ⟨d, hd, h1, _, h2, h3, _⟩ := G.edge ha
  have : e = d := by
    rw [(edgeOf_lt (G.ord e he)).1] at h1
    exact key_inj G.keys he hd (congrArg Prod.fst h1) (congrArg Prod.snd h1)
  subst this
  rcases G.kidOf hr he with ⟨k, e1⟩ | ⟨k, e1⟩
  · rw [e1, G.up hr k, h2]
  · rw [e1, G.up hr k, h3]
theorem sum_perm {l l' : List Str} (f : Str → Int) (h : l.Perm l') : (l.map f).sum = (l'.map f).sum := by
  induction h with
  | nil => rfl
  | cons x _ ih => rw [List.map_cons, List.map_cons, List.sum_cons, List.sum_cons, ih]
  | swap x y l =>
    simp only [List.map_cons, List.sum_cons]
    omega
  | trans _ _ h1 h2 => rw [h1, h2]
theorem GT.es_nodup (G : GT T) : T.es.Nodup := by
  have h := G.keys
  unfold List.Nodup at h
  rw [List.pairwise_map] at h
  exact h.imp fun {a b} h e => h (by rw [e])
/-- all that is walked: the needed edges, each once -/
theorem GT.total (G : GT T) (hr : r ∈ T.names) (hw : ∀ w ∈ wanted, w ∈ T.names) {cs : List Str} (nd : cs.Nodup) (nm : ∀ y ∈ cs, y ∈ T.names)
    (me : ∀ y ∈ T.names, (y ∈ cs ↔ ∃ k, Kid T r r k ∧ k ∈ pth T.es r y ∧ Nd T r wanted y)) : (cs.map (TM.up T r)).sum = tot T r wanted := by
  have mem : ∀ e ∈ T.es, (e ∈ needE T r wanted ↔ TM.kidOf T r e ∈ cs) := by
    intro e he
    have hk := G.kidOf hr he
    have h1 : e ∈ needE T r wanted ↔ (e.a, e.b) ∈ needed T r wanted := by
      unfold needed
      rw [List.mem_map]
      constructor
      · intro h
        exact ⟨e, h, rfl⟩
      · rintro ⟨d, hd, h⟩
        have hd2 : d ∈ T.es := (List.mem_filter.mp hd).1
        rw [← key_inj G.keys hd2 he (congrArg Prod.fst h) (congrArg Prod.snd h)]
        exact hd
    have h2 : ∀ x c, Kid T r x c → (c ∈ cs ↔ Nd T r wanted c) := by
      intro x c k
      have hc := (G.dom k.1).2
      have hx := (G.dom k.1).1
      rw [me c hc]
      constructor
      · rintro ⟨_, _, _, h⟩
        exact h
      · intro h
        have hrc : r ∈ pth T.es r c := (G.sp hr hc).mem_l
        rcases (G.below hr hr hc).mp hrc with h3 | ⟨k2, h3, h4⟩
        · exfalso
          subst h3
          have := congrArg List.length k.2
          rw [G.self hr, List.length_append, List.length_singleton] at this
          have h5 := List.length_pos_iff.mpr (G.sp hr hx).ne
          omega
        · exact ⟨k2, h3, h4, h⟩
    rw [h1]
    rcases hk with ⟨k, e1⟩ | ⟨k, e1⟩
    · rw [e1, h2 _ _ k, ← G.kid_need hr hw k, (edgeOf_lt (G.ord e he)).1]
    · rw [e1, h2 _ _ k, ← G.kid_need hr hw k, (edgeOf_lt (G.ord e he)).2]
  have inj : ∀ e ∈ T.es, ∀ d ∈ T.es, TM.kidOf T r e = TM.kidOf T r d → e = d := by
    intro e he d hd eq
    have par : ∀ e ∈ T.es, ∃ x, Kid T r x (TM.kidOf T r e) ∧ edgeOf x (TM.kidOf T r e) = (e.a, e.b) := by
      intro e he
      rcases G.kidOf hr he with ⟨k, e1⟩ | ⟨k, e1⟩
      · rw [e1]; exact ⟨_, k, (edgeOf_lt (G.ord e he)).1⟩
      · rw [e1]; exact ⟨_, k, (edgeOf_lt (G.ord e he)).2⟩
    obtain ⟨x, k1, e1⟩ := par e he
    obtain ⟨y, k2, e2⟩ := par d hd
    rw [← eq] at k2 e2
    have hxy : x = y := by
      have h1 := k1.2.symm.trans k2.2
      have h2 := (List.append_inj' h1 rfl).1
      obtain ⟨p, e3⟩ := (G.sp hr (G.dom k1.1).1).last
      obtain ⟨p2, e4⟩ := (G.sp hr (G.dom k2.1).1).last
      rw [e3, e4] at h2
      exact (List.cons.inj (List.append_inj' h2 rfl).2).1
    rw [hxy, e2] at e1
    exact key_inj G.keys he hd (congrArg Prod.fst e1).symm (congrArg Prod.snd e1).symm
  have sub : ∀ e ∈ needE T r wanted, e ∈ T.es := fun e he => (List.mem_filter.mp he).1
  have nd2 : ((needE T r wanted).map (TM.kidOf T r)).Nodup := by
    unfold List.Nodup
    rw [List.pairwise_map]
    have h1 : (needE T r wanted).Nodup := G.es_nodup.sublist List.filter_sublist
    refine List.Pairwise.imp_of_mem ?_ h1
    intro a b ha hb hne eq
    exact hne (inj a (sub a ha) b (sub b hb) eq)
  have perm : cs.Perm ((needE T r wanted).map (TM.kidOf T r)) := by
    rw [List.perm_ext_iff_of_nodup nd nd2]
    intro y
    constructor
    · intro hy
      have hyn := nm y hy
      obtain ⟨k, hk, hky, hn⟩ := (me y hyn).mp hy
      obtain ⟨p, ep⟩ := (G.sp hr hyn).last
      cases hp : (List.eq_nil_or_concat p) with
      | inl h0 =>
        exfalso
        subst h0
        have h3 : r ∈ pth T.es r y := (G.sp hr hyn).mem_l
        rw [ep] at h3 hky
        have e1 : r = y := by simpa using h3
        have e2 : k = y := by simpa using hky
        rw [e2, ← e1] at hk
        have := congrArg List.length hk.2
        rw [List.length_append, List.length_singleton] at this
        omega
      | inr h0 =>
        obtain ⟨p2, x, e2⟩ := h0
        have e3 : pth T.es r y = p2 ++ x :: [y] := by rw [ep, e2]; simp
        have s1 := G.sp hr hyn
        have ha : Adj T.es x y := by
          have s2 : SP (Adj T.es) x y (x :: [y]) := by
            rw [e3] at s1
            exact s1.suf
          cases s2 with
          | @cons _ b _ _ r1 h2 _ =>
            obtain ⟨t, e4⟩ := h2.head
            obtain rfl := (List.cons.inj e4).1
            exact r1
        have kd : Kid T r x y := by
          refine ⟨ha, ?_⟩
          have s3 : SP (Adj T.es) r x (p2 ++ [x]) := by
            have s1 := G.sp hr hyn
            rw [e3] at s1
            exact s1.pre
          rw [G.uq.uniq _ _ _ _ (G.sp hr (G.dom ha).1) s3, e3]
          simp
        obtain ⟨e, he, h1, _, _, _, h2⟩ := G.edge ha
        have hky : TM.kidOf T r e = y := by
          rcases G.kidOf hr he with ⟨k3, e5⟩ | ⟨k3, e5⟩
          · rcases h2 with ⟨h3, h4⟩ | ⟨h3, h4⟩
            · rw [e5, h4]
            · exfalso
              rw [h3, h4] at k3
              have l1 := congrArg List.length k3.2
              have l2 := congrArg List.length kd.2
              rw [List.length_append, List.length_singleton] at l1 l2
              omega
          · rcases h2 with ⟨h3, h4⟩ | ⟨h3, h4⟩
            · exfalso
              rw [h3, h4] at k3
              have l1 := congrArg List.length k3.2
              have l2 := congrArg List.length kd.2
              rw [List.length_append, List.length_singleton] at l1 l2
              omega
            · rw [e5, h3]
        exact List.mem_map.mpr ⟨e, (mem e he).mpr (by rw [hky]; exact hy), hky⟩
    · intro hy
      obtain ⟨e, he, rfl⟩ := List.mem_map.mp hy
      exact (mem e (sub e he)).mp he
  rw [sum_perm _ perm, List.map_map]
  unfold tot needed
  rw [List.map_map]
  congr 1
  refine List.map_congr_left fun e he => ?_
  show TM.up T r (TM.kidOf T r e) = dist T.es e.a e.b
  rw [G.up_kidOf hr (sub e he), G.dist_edge (sub e he)]

/-! ### the end of a trip -/
theorem endFold (es : List Ed) (r : Str) (P : Str → Prop) : ∀ (l : List Str) (st : Str × Int), (∀ x ∈ l, P x) → P st.1 → dist es r st.1 = st.2 →
    P (l.foldl (endStep es r) st).1 ∧ dist es r (l.foldl (endStep es r) st).1 = (l.foldl (endStep es r) st).2 ∧ st.2 ≤ (l.foldl (endStep es r) st).2 ∧ ∀ x ∈ l, dist es r x ≤ (l.foldl (endStep es r) st).2
  | [], st, _, h1, h2 => ⟨h1, h2, Int.le_refl _, fun x hx => by simp at hx⟩
  | x :: l, st, hl, h1, h2 => by
    rw [List.foldl_cons]
    have hx := hl x List.mem_cons_self
    have hl' := fun z hz => hl z (List.mem_cons_of_mem _ hz)
    by_cases h : st.2 < dist es r x
    · have e : endStep es r st x = (x, dist es r x) := if_pos h
      rw [e]
      obtain ⟨a, b, c, d⟩ := endFold es r P l (x, dist es r x) hl' hx rfl
      refine ⟨a, b, Int.le_trans (Int.le_of_lt h) c, fun z hz => ?_⟩
      rcases List.mem_cons.mp hz with rfl | hz
      · exact c
      · exact d z hz
    · have e : endStep es r st x = st := if_neg h
      rw [e]
      obtain ⟨a, b, c, d⟩ := endFold es r P l st hl' h1 h2
      refine ⟨a, b, c, fun z hz => ?_⟩
      rcases List.mem_cons.mp hz with rfl | hz
      · omega
      · exact d z hz
theorem GT.endOf (G : GT T) (hr : r ∈ T.names) : (TM.endOf T.es r wanted = r ∨ TM.endOf T.es r wanted ∈ wanted) ∧ ∀ w ∈ wanted, dist T.es r w ≤ dist T.es r (TM.endOf T.es r wanted) := by
  have h0 : dist T.es r r = 0 := by
    unfold dist
    rw [G.self hr]
    rfl
  obtain ⟨a, b, c, d⟩ := endFold T.es r (fun x => x = r ∨ x ∈ wanted) (srtS wanted) (r, 0) (fun x hx => .inr ((srtS_perm wanted).mem_iff.mp hx)) (.inl rfl) h0
  refine ⟨a, fun w hw => ?_⟩
  have := d w ((srtS_perm wanted).mem_iff.mpr hw)
  rw [← b] at this
  exact this

/-! ### what the law asks -/
structure Fine (T : Tr) (r : Str) (wanted : List Str) : Prop where
  round : wfRound T r wanted = some (roundOf T r wanted)
  rlen : (roundOf T r wanted).length ≤ 1000
  rhd : ∃ t, roundOf T r wanted = r :: t
  rlt : ∃ t, roundOf T r wanted = t ++ [r]
  rin : ∀ w ∈ wanted, w ∈ roundOf T r wanted
  rsm : wsum T.es (roundOf T r wanted) = some (2 * tot T r wanted)
  trip : wfTrip T r wanted = some (tripOf T r wanted)
  tlen : (tripOf T r wanted).length ≤ 1000
  thd : ∃ t, tripOf T r wanted = r :: t
  tlt : ∃ t, tripOf T r wanted = t ++ [TM.endOf T.es r wanted]
  tin : ∀ w ∈ wanted, w ∈ tripOf T r wanted
  tsm : wsum T.es (tripOf T r wanted) = some (2 * tot T r wanted - dist T.es r (TM.endOf T.es r wanted))
  far : ∀ w ∈ wanted, dist T.es r w ≤ dist T.es r (TM.endOf T.es r wanted)
  ein : TM.endOf T.es r wanted ∈ T.names
theorem GT.fine (G : GT T) (hr : r ∈ T.names) (hw : ∀ w ∈ wanted, w ∈ T.names) : Fine T r wanted := by
  have he := G.endOf (wanted := wanted) hr
  have hen : TM.endOf T.es r wanted ∈ T.names := by
    rcases he.1 with h | h
    · rw [h]; exact hr
    · exact hw _ h
  have l1 : 13 ≤ 14 + (pth T.es r r).length := by omega
  obtain ⟨res, cs, e, I⟩ := G.round hr hw 14 r none [] hr (G.came0 hr) (lastOf_nil r) l1
  obtain ⟨q, hq⟩ := G.uq.first (G.sp hr hen) (G.sp hr hr) (G.sp hr hen).mem_l
  have hqr : pth T.es r (TM.endOf T.es r wanted) = r :: q := by rw [hq, G.self hr]; rfl
  obtain ⟨res2, cs2, e2, J⟩ := G.trip hr hw hen 14 r none q hr (G.came0 hr) hq (fun hne => by
    rcases he.1 with h | h
    · exfalso
      rw [h, G.self hr] at hqr
      exact hne (List.cons.inj hqr).2.symm
    · exact h) l1
  have r1 : roundOf T r wanted = res := by
    unfold roundOf wfRound
    rw [e]
    rfl
  have r2 : tripOf T r wanted = res2 := by
    unfold tripOf wfTrip
    rw [e2]
    rfl
  have inn : ∀ (cs' : List Str), (∀ y ∈ T.names, (y ∈ cs' ↔ ∃ k, Kid T r r k ∧ k ∈ pth T.es r y ∧ Nd T r wanted y)) → ∀ w ∈ wanted, w = r ∨ w ∈ cs' := by
    intro cs' me w hm
    have hwn := hw w hm
    rcases (G.below hr hr hwn).mp (G.sp hr hwn).mem_l with h | ⟨k, h1, h2⟩
    · exact .inl h
    · exact .inr ((me w hwn).mpr ⟨k, h1, h2, w, hm, (G.sp hr hwn).mem_r⟩)
  refine ⟨?_, ?_, ?_, ?_, ?_, ?_, ?_, ?_, ?_, ?_, ?_, ?_, he.2, hen⟩
  · rw [r1]; exact e
  · rw [r1]; exact Nat.le_trans (I.short G) (by decide)
  · rw [r1]; exact I.hd
  · rw [r1]; exact I.lt
  · intro w hm
    rw [r1]
    rcases inn cs I.me w hm with h | h
    · obtain ⟨t, ht⟩ := I.hd
      rw [h, ht]
      exact List.mem_cons_self
    · exact I.al w h
  · rw [r1, I.sm, G.total hr hw I.nd I.nm I.me]
  · rw [r2]; exact e2
  · rw [r2]
    have h1 := G.few J.nd J.nm
    have h2 := J.ln
    omega
  · rw [r2]; exact J.hd
  · rw [r2]; exact J.lt
  · intro w hm
    rw [r2]
    rcases inn cs2 J.me w hm with h | h
    · obtain ⟨t, ht⟩ := J.hd
      rw [h, ht]
      exact List.mem_cons_self
    · exact J.al w h
  · rw [r2, J.sm, G.total hr hw J.nd J.nm J.me]
    unfold dist
    rw [hqr]
theorem mem_near {a b x : Str} (hx : x ∈ T.names) : x ∈ farOf T a b ↔ x ∉ nearOf T a b := by
  unfold farOf
  rw [List.mem_filter]
  exact ⟨fun h => of_decide_eq_true h.2, fun h => ⟨hx, decide_eq_true h⟩⟩
/-- the law's own look beyond an edge is the program's -/
theorem inBey_eq (hw : ∀ w ∈ wanted, w ∈ T.names) (k : Str × Str) : (wanted.filter fun o => !decide (decide (o ∈ nearOf T k.1 k.2) = decide (r ∈ nearOf T k.1 k.2))) = inBey T r k wanted := by
  unfold inBey beyond
  refine List.filter_congr fun o ho => ?_
  have hon := hw o ho
  by_cases h1 : r ∈ nearOf T k.1 k.2
  · rw [if_pos h1]
    by_cases h2 : o ∈ nearOf T k.1 k.2
    · have h3 : ¬ o ∈ farOf T k.1 k.2 := fun z => (mem_near hon).mp z h2
      simp [h1, h2, h3]
    · have h3 : o ∈ farOf T k.1 k.2 := (mem_near hon).mpr h2
      simp [h1, h2, h3]
  · rw [if_neg h1]
    by_cases h2 : o ∈ nearOf T k.1 k.2 <;> simp [h1, h2]
theorem inBey_ne {k : Str × Str} (h : k ∈ needed T r wanted) : inBey T r k wanted ≠ [] := by
  obtain ⟨e, he, ⟨w, hm, h1⟩, rfl⟩ := mem_needed.mp h
  intro z
  have : w ∈ inBey T r (e.a, e.b) wanted := List.mem_filter.mpr ⟨hm, decide_eq_true h1⟩
  rw [z] at this
  simp at this
end

/-! ### how a tree is made -/
inductive Grown : List Str → List Ed → Prop
  | one (x : Str) : Grown [x] []
  | add {ns : List Str} {es : List Ed} {u v : Str} {e : Ed} : Grown ns es → u ∈ ns → v ∉ ns → DatumOrd.lt e.a e.b = true → ((e.a = u ∧ e.b = v) ∨ (e.a = v ∧ e.b = u)) → Grown (ns ++ [v]) (es ++ [e])
theorem Grown.ends {ns : List Str} {es : List Ed} (g : Grown ns es) : ∀ e ∈ es, e.a ∈ ns ∧ e.b ∈ ns := by
  induction g with
  | one x => intro e he; simp at he
  | @add ns es u v e g hu hv hl h ih =>
    intro d hd
    rcases List.mem_append.mp hd with hd | hd
    · exact ⟨List.mem_append_left _ (ih d hd).1, List.mem_append_left _ (ih d hd).2⟩
    · obtain rfl := List.mem_singleton.mp hd
      rcases h with ⟨h1, h2⟩ | ⟨h1, h2⟩
      · rw [h1, h2]; exact ⟨List.mem_append_left _ hu, by simp⟩
      · rw [h1, h2]; exact ⟨by simp, List.mem_append_left _ hu⟩
theorem Grown.facts {ns : List Str} {es : List Ed} (g : Grown ns es) : ns.Nodup ∧ (∀ e ∈ es, DatumOrd.lt e.a e.b = true) ∧ (es.map fun e => (e.a, e.b)).Nodup ∧ es.length + 1 = ns.length ∧ Uq (Adj es) ns := by
  induction g with
  | one x => exact ⟨by simp, fun e he => by simp at he, by simp, rfl, (Uq.single x).of_iff fun a b => ⟨fun h => h.elim, fun ⟨e, he, _⟩ => by simp at he⟩⟩
  | @add ns es u v e g hu hv hl h ih =>
    obtain ⟨i1, i2, i3, i4, i5⟩ := ih
    refine ⟨?_, ?_, ?_, ?_, ?_⟩
    · rw [List.nodup_append]
      exact ⟨i1, by simp, fun a ha b hb eq => hv (by rw [List.mem_singleton.mp hb] at eq; rw [← eq]; exact ha)⟩
    · intro d hd
      rcases List.mem_append.mp hd with hd | hd
      · exact i2 d hd
      · rw [List.mem_singleton.mp hd]; exact hl
    · rw [List.map_append, List.nodup_append]
      refine ⟨i3, by simp, fun a ha b hb eq => ?_⟩
      obtain ⟨d, hd, rfl⟩ := List.mem_map.mp ha
      have hb' : b = (e.a, e.b) := by simpa using hb
      rw [hb'] at eq
      have hd2 := g.ends d hd
      have e1 : d.a = e.a := congrArg Prod.fst eq
      have e2 : d.b = e.b := congrArg Prod.snd eq
      rcases h with ⟨h1, h2⟩ | ⟨h1, h2⟩
      · exact hv (by rw [← h2, ← e2]; exact hd2.2)
      · exact hv (by rw [← h1, ← e1]; exact hd2.1)
    · rw [List.length_append, List.length_append, List.length_singleton, List.length_singleton, i4]
    · refine (i5.leaf hu hv).of_iff fun x y => ?_
      unfold Leaf Adj
      constructor
      · rintro (⟨d, hd, h0⟩ | ⟨rfl, rfl⟩ | ⟨rfl, rfl⟩)
        · exact ⟨d, List.mem_append_left _ hd, h0⟩
        · exact ⟨e, by simp, h⟩
        · exact ⟨e, by simp, h.symm⟩
      · rintro ⟨d, hd, h0⟩
        rcases List.mem_append.mp hd with hd | hd
        · exact .inl ⟨d, hd, h0⟩
        · rw [List.mem_singleton.mp hd] at h0
          right
          rcases h with ⟨h1, h2⟩ | ⟨h1, h2⟩ <;> rcases h0 with ⟨h3, h4⟩ | ⟨h3, h4⟩
          · exact .inl ⟨by rw [← h3, h1], by rw [← h4, h2]⟩
          · exact .inr ⟨by rw [← h4, h2], by rw [← h3, h1]⟩
          · exact .inr ⟨by rw [← h3, h1], by rw [← h4, h2]⟩
          · exact .inl ⟨by rw [← h4, h2], by rw [← h3, h1]⟩
theorem Uq.perm {R : Str → Str → Prop} {N N' : List Str} (U : Uq R N) (h : ∀ x, x ∈ N ↔ x ∈ N') : Uq R N' :=
  ⟨U.sym, U.irr, fun x y r => (h x).mp (U.dom x y r), fun a b ha hb => U.conn a b ((h a).mpr ha) ((h b).mpr hb), U.uniq⟩
theorem Grown.gt {ns : List (Str × Int)} {es : List Ed} (g : Grown (ns.map (·.1)) es) (h : ns.length ≤ 12) : GT ⟨srt2 ns, srt3 es⟩ := by
  obtain ⟨i1, i2, i3, i4, i5⟩ := g.facts
  have p2 := srt2_perm ns
  have p3 := srt3_perm es
  rw [List.length_map] at i4
  refine ⟨by rw [p2.length_eq]; exact h, by rw [p3.length_eq]; omega, (p2.map _).nodup_iff.mpr i1, fun e he => i2 e (p3.mem_iff.mp he), (p3.map _).nodup_iff.mpr i3, ?_⟩
  refine (i5.of_iff (R' := Adj (srt3 es)) fun x y => ?_).perm fun x => ((p2.map (·.1)).mem_iff (a := x)).symm
  unfold Adj
  exact ⟨fun ⟨e, he, h⟩ => ⟨e, p3.mem_iff.mpr he, h⟩, fun ⟨e, he, h⟩ => ⟨e, p3.mem_iff.mp he, h⟩⟩
end TM
-- text W0
set_option Elab.async false
set_option linter.all false
set_option maxRecDepth 100000
/-! typed data over the abstract heap, and rules for it; own work -/
namespace W0
open PySem PySem.W PyProof.Rows L2

/-- the tuples stay -/
def KT (H H' : Hp) : Prop := ∀ b xs, H b = some (.tup xs) → H' b = some (.tup xs)
theorem KT.refl (H : Hp) : KT H H := fun _ _ h => h
theorem KT.trans {H H1 H2 : Hp} (a : KT H H1) (b : KT H1 H2) : KT H H2 := fun c x h => b c x (a c x h)
theorem KT.of {H H' : Hp} (s : Same H H') : KT H H' := fun b xs h => s _ _ h
theorem KT.new {H : Hp} {a : Addr} {o : HO} (h : H a = none) : KT H (upd H a o) := fun b xs e => by rw [upd_ne (ne_of_none e h)]; exact e
theorem KT.lst {H : Hp} {a : Addr} {ys : List V} {o : HO} (h : H a = some (.lst ys)) : KT H (upd H a o) := fun b xs e => by rw [upd_ne (ne_of e h (by intro q; cases q))]; exact e
theorem KT.dK {H : Hp} {a : Addr} {ys} {o : HO} (h : H a = some (.dK ys)) : KT H (upd H a o) := fun b xs e => by rw [upd_ne (ne_of e h (by intro q; cases q))]; exact e
theorem KT.dT {H : Hp} {a : Addr} {ys} {o : HO} (h : H a = some (.dT ys)) : KT H (upd H a o) := fun b xs e => by rw [upd_ne (ne_of e h (by intro q; cases q))]; exact e

/-- data of a Lean type at an abstract value, made of flat things and tuples alone -/
class Fl (α : Type) [DecidableEq α] [Datum α] where
  at_ : Hp → V → α → Prop
  keep : ∀ {H H' : Hp} {v : V} {x : α}, KT H H' → at_ H v x → at_ H' v x
  holds : ∀ {P : Program} {w : World} {H : Hp} {h : Heap} {v : V} {u : Value} {x : α}, HOk P w H h → RelV v u → at_ H v x → Holds h u x

section
variable {α β γ : Type} [DecidableEq α] [Datum α] [Fl α] [DecidableEq β] [Datum β] [Fl β] [DecidableEq γ] [Datum γ] [Fl γ]
/-- item by item -/
def AllAt (H : Hp) : List V → List α → Prop
  | [], [] => True
  | v :: vs, x :: xs => Fl.at_ H v x ∧ AllAt H vs xs
  | _, _ => False
theorem AllAt.keep {H H' : Hp} (k : KT H H') : ∀ {vs : List V} {xs : List α}, AllAt H vs xs → AllAt H' vs xs
  | [], [], _ => True.intro
  | _ :: _, _ :: _, ⟨a, b⟩ => ⟨Fl.keep k a, AllAt.keep k b⟩
  | [], _ :: _, h => h.elim
  | _ :: _, [], h => h.elim
theorem AllAt.len {H : Hp} : ∀ {vs : List V} {xs : List α}, AllAt H vs xs → vs.length = xs.length
  | [], [], _ => rfl
  | _ :: _, _ :: _, ⟨_, b⟩ => by rw [List.length_cons, List.length_cons, AllAt.len b]
  | [], _ :: _, h => h.elim
  | _ :: _, [], h => h.elim
theorem AllAt.app {H : Hp} : ∀ {vs : List V} {xs : List α} {us : List V} {ys : List α}, AllAt H vs xs → AllAt H us ys → AllAt H (vs ++ us) (xs ++ ys)
  | [], [], _, _, _, h => h
  | _ :: _, _ :: _, _, _, ⟨a, b⟩, h => ⟨a, AllAt.app b h⟩
  | [], _ :: _, _, _, h, _ => h.elim
  | _ :: _, [], _, _, h, _ => h.elim
theorem AllAt.one {H : Hp} {v : V} {x : α} (h : Fl.at_ H v x) : AllAt H [v] [x] := ⟨h, True.intro⟩
theorem AllAt.get {H : Hp} : ∀ {vs : List V} {xs : List α}, AllAt H vs xs → ∀ {i : Nat} {v : V}, vs[i]? = some v → ∃ x, xs[i]? = some x ∧ Fl.at_ H v x
  | [], [], _, i, v, e => by simp at e
  | v :: vs, x :: xs, ⟨a, b⟩, 0, u, e => ⟨x, rfl, by rw [← Option.some.inj e]; exact a⟩
  | v :: vs, x :: xs, ⟨a, b⟩, i + 1, u, e => AllAt.get b (i := i) e
  | [], _ :: _, h, _, _, _ => h.elim
  | _ :: _, [], h, _, _, _ => h.elim
theorem AllAt.get' {H : Hp} : ∀ {vs : List V} {xs : List α}, AllAt H vs xs → ∀ {i : Nat} {x : α}, xs[i]? = some x → ∃ v, vs[i]? = some v ∧ Fl.at_ H v x
  | [], [], _, i, v, e => by simp at e
  | v :: vs, x :: xs, ⟨a, b⟩, 0, u, e => ⟨v, rfl, by rw [← Option.some.inj e]; exact a⟩
  | v :: vs, x :: xs, ⟨a, b⟩, i + 1, u, e => AllAt.get' b (i := i) e
  | [], _ :: _, h, _, _, _ => h.elim
  | _ :: _, [], h, _, _, _ => h.elim
theorem AllAt.take {H : Hp} : ∀ {vs : List V} {xs : List α} (n : Nat), AllAt H vs xs → AllAt H (vs.take n) (xs.take n)
  | _, _, 0, _ => True.intro
  | [], [], n + 1, _ => True.intro
  | v :: vs, x :: xs, n + 1, ⟨a, b⟩ => ⟨a, AllAt.take n b⟩
  | [], _ :: _, _, h => h.elim
  | _ :: _, [], _, h => h.elim
theorem AllAt.hold {P : Program} {w : World} {H : Hp} {h : Heap} (ok : HOk P w H h) : ∀ {vs : List V} {xs : List α} {us : List Value}, AllAt H vs xs → Vals vs us → HoldAll h us xs
  | [], [], _, _, .nil => HoldAll.nil
  | v :: vs, x :: xs, _, ⟨a, b⟩, .cons r t => HoldAll.cons (Fl.holds ok r a) (AllAt.hold ok b t)
  | [], _ :: _, _, h, _ => h.elim
  | _ :: _, [], _, h, _ => h.elim

instance : Fl Int where
  at_ _ v x := v = .int x
  keep _ h := h
  holds _ r h := by
    subst h
    obtain ⟨t, rfl⟩ := r
    exact holds_int _ t
instance : Fl Str where
  at_ _ v x := v = .str x
  keep _ h := h
  holds _ r h := by
    subst h
    obtain ⟨t, rfl⟩ := r
    exact holds_str _ t
/-- None or a text -/
def oS : Option Str → V
  | none => .non
  | some s => .str s
instance : Fl (Option Str) where
  at_ _ v x := v = oS x
  keep _ h := h
  holds _ r h := by
    subst h
    rename_i x _
    cases x with
    | none =>
      cases r
      exact holds_nothing
    | some s =>
      obtain ⟨t, rfl⟩ := r
      exact holds_some (holds_str _ t)
theorem AllAt.strs {H : Hp} : ∀ {vs : List V} {xs : List Str}, AllAt H vs xs → vs = xs.map V.str
  | [], [], _ => rfl
  | v :: vs, x :: xs, ⟨a, b⟩ => by rw [List.map_cons, AllAt.strs b]; congr 1
  | [], _ :: _, h => h.elim
  | _ :: _, [], h => h.elim
theorem AllAt.of_strs {H : Hp} : ∀ (xs : List Str), AllAt H (xs.map V.str) xs
  | [] => True.intro
  | x :: xs => ⟨rfl, AllAt.of_strs xs⟩
theorem AllAt.ints {H : Hp} : ∀ {vs : List V} {xs : List Int}, AllAt H vs xs → vs = xs.map V.int
  | [], [], _ => rfl
  | v :: vs, x :: xs, ⟨a, b⟩ => by rw [List.map_cons, AllAt.ints b]; congr 1
  | [], _ :: _, h => h.elim
  | _ :: _, [], h => h.elim
theorem AllAt.of_ints {H : Hp} : ∀ (xs : List Int), AllAt H (xs.map V.int) xs
  | [] => True.intro
  | x :: xs => ⟨rfl, AllAt.of_ints xs⟩

theorem tup_of {P : Program} {w : World} {H : Hp} {h : Heap} {p : Addr} {xs : List V} (ok : HOk P w H h) (e : H p = some (.tup xs)) : ∃ its : List Value, Vals xs its ∧ h.IsTuple p its.toArray := by
  obtain ⟨_, its, r, t⟩ := ok p _ e
  exact ⟨its, r, t⟩
theorem lst_of {P : Program} {w : World} {H : Hp} {h : Heap} {p : Addr} {xs : List V} (ok : HOk P w H h) (e : H p = some (.lst xs)) : ∃ its : List Value, Vals xs its ∧ h.IsList p its.toArray := by
  obtain ⟨_, its, n, r, t⟩ := ok p _ e
  exact ⟨its, r, _, t, rfl, n, rfl⟩
instance : Fl (α × β) where
  at_ H v x := ∃ p a b, v = .ref p ∧ H p = some (.tup [a, b]) ∧ Fl.at_ H a x.1 ∧ Fl.at_ H b x.2
  keep k h := by
    obtain ⟨p, a, b, e, e2, h1, h2⟩ := h
    exact ⟨p, a, b, e, k _ _ e2, Fl.keep k h1, Fl.keep k h2⟩
  holds ok r h := by
    obtain ⟨p, a, b, rfl, e2, h1, h2⟩ := h
    cases r
    obtain ⟨its, rv, ht⟩ := tup_of ok e2
    cases rv with
    | cons r1 t => cases t with
      | cons r2 t => cases t with
        | nil => exact holds_pair ht (Fl.holds ok r1 h1) (Fl.holds ok r2 h2)
instance : Fl (T3 α β γ) where
  at_ H v x := ∃ p a b c, v = .ref p ∧ H p = some (.tup [a, b, c]) ∧ Fl.at_ H a x.a ∧ Fl.at_ H b x.b ∧ Fl.at_ H c x.c
  keep k h := by
    obtain ⟨p, a, b, c, e, e2, h1, h2, h3⟩ := h
    exact ⟨p, a, b, c, e, k _ _ e2, Fl.keep k h1, Fl.keep k h2, Fl.keep k h3⟩
  holds ok r h := by
    obtain ⟨p, a, b, c, rfl, e2, h1, h2, h3⟩ := h
    cases r
    obtain ⟨its, rv, ht⟩ := tup_of ok e2
    cases rv with
    | cons r1 t => cases t with
      | cons r2 t => cases t with
        | cons r3 t => cases t with
          | nil => exact holds_t3 ht (Fl.holds ok r1 h1) (Fl.holds ok r2 h2) (Fl.holds ok r3 h3)
/-- a tuple of any length -/
def TAt (H : Hp) (v : V) (xs : List α) : Prop := ∃ p vs, v = .ref p ∧ H p = some (.tup vs) ∧ AllAt H vs xs
theorem TAt.keep {H H' : Hp} {v : V} {xs : List α} (k : KT H H') (h : TAt H v xs) : TAt H' v xs := by
  obtain ⟨p, vs, e, e2, h1⟩ := h
  exact ⟨p, vs, e, k _ _ e2, h1.keep k⟩
/-- a list -/
def LAt (H : Hp) (v : V) (xs : List α) : Prop := ∃ p vs, v = .ref p ∧ H p = some (.lst vs) ∧ AllAt H vs xs
theorem LAt.holds {P : Program} {w : World} {H : Hp} {h : Heap} {v : V} {u : Value} {xs : List α} (ok : HOk P w H h) (r : RelV v u) (l : LAt H v xs) : Holds h u xs := by
  obtain ⟨p, vs, rfl, e2, h1⟩ := l
  cases r
  obtain ⟨its, rv, ht⟩ := lst_of ok e2
  exact holds_list ht (h1.hold ok rv)

/-! ### rules -/
variable {X : Cx}
def rEqF (α : Type) [DecidableEq α] [Datum α] [Fl α] : R2 := fun x y H Q => ∃ a b : α, Fl.at_ H x a ∧ Fl.at_ H y b ∧ Datum.depth α ≤ 30 ∧ Q (.bl (decide (a = b))) H
def rNeF (α : Type) [DecidableEq α] [Datum α] [Fl α] : R2 := fun x y H Q => ∃ a b : α, Fl.at_ H x a ∧ Fl.at_ H y b ∧ Datum.depth α ≤ 30 ∧ Q (.bl (decide (a ≠ b))) H
def rNeL (α : Type) [DecidableEq α] [Datum α] [Fl α] : R2 := fun x y H Q => ∃ a b : List α, LAt H x a ∧ LAt H y b ∧ Datum.depth α ≤ 30 ∧ Q (.bl (decide (a ≠ b))) H
theorem op_eqF (α : Type) [DecidableEq α] [Datum α] [Fl α] (hu : X.A.units + 64 < cLine) : OpR X (compareOp .Eq) (rEqF α) := by
  intro pins s σ H x y v u Q I rx ry h
  obtain ⟨a, b, ha, hb, hd, q⟩ := h
  exact eq_datum (Fl.holds I.hok rx ha) (Fl.holds I.hok ry hb) (by omega) ⟨.bl _, H, I, rfl, q⟩
theorem op_neF (α : Type) [DecidableEq α] [Datum α] [Fl α] (hu : X.A.units + 64 < cLine) : OpR X (compareOp .NotEq) (rNeF α) := by
  intro pins s σ H x y v u Q I rx ry h
  obtain ⟨a, b, ha, hb, hd, q⟩ := h
  exact ne_datum (Fl.holds I.hok rx ha) (Fl.holds I.hok ry hb) (by omega) ⟨.bl _, H, I, rfl, q⟩
theorem op_neL (α : Type) [DecidableEq α] [Datum α] [Fl α] (hu : X.A.units + 64 < cLine) : OpR X (compareOp .NotEq) (rNeL α) := by
  intro pins s σ H x y v u Q I rx ry h
  obtain ⟨a, b, ha, hb, hd, q⟩ := h
  refine ne_datum (LAt.holds I.hok rx ha) (LAt.holds I.hok ry hb) ?_ ⟨.bl _, H, I, rfl, q⟩
  show X.A.units + (Datum.depth α + 1) < cLine
  omega
/-- x in l, x not in l, l a list of items of one type -/
def rInF (α : Type) [DecidableEq α] [Datum α] [Fl α] : R2 := fun x y H Q => ∃ (a : α) (xs : List α), Fl.at_ H x a ∧ LAt H y xs ∧ Datum.depth α ≤ 30 ∧ Q (.bl (decide (a ∈ xs))) H
def rNiF (α : Type) [DecidableEq α] [Datum α] [Fl α] : R2 := fun x y H Q => ∃ (a : α) (xs : List α), Fl.at_ H x a ∧ LAt H y xs ∧ Datum.depth α ≤ 30 ∧ Q (.bl (decide (a ∉ xs))) H
theorem op_inF (α : Type) [DecidableEq α] [Datum α] [Fl α] (hu : X.A.units + 64 < cLine) : OpR X (compareOp .In) (rInF α) := by
  intro pins s σ H x y v u Q I rx ry h
  obtain ⟨a, xs, ha, ⟨p, vs, rfl, e2, h1⟩, hd, q⟩ := h
  cases ry
  obtain ⟨its, rv, ht⟩ := lst_of I.hok e2
  exact in_list_datum ht (h1.hold I.hok rv) (Fl.holds I.hok rx ha) (by omega) ⟨.bl _, H, I, rfl, q⟩
theorem op_notInF (α : Type) [DecidableEq α] [Datum α] [Fl α] (hu : X.A.units + 64 < cLine) : OpR X (compareOp .NotIn) (rNiF α) := by
  intro pins s σ H x y v u Q I rx ry h
  obtain ⟨a, xs, ha, ⟨p, vs, rfl, e2, h1⟩, hd, q⟩ := h
  cases ry
  obtain ⟨its, rv, ht⟩ := lst_of I.hok e2
  exact notIn_list_datum ht (h1.hold I.hok rv) (Fl.holds I.hok rx ha) (by omega) ⟨.bl _, H, I, rfl, q⟩
/-- l.index(x), x in l -/
def rIndexF (α : Type) [DecidableEq α] [Datum α] [Fl α] : V → List V → Hp → VK → Prop := fun x us H Q => ∃ (y : V) (a : α) (xs : List α), us = [y] ∧ LAt H x xs ∧ Fl.at_ H y a ∧ Datum.depth α ≤ 30 ∧ a ∈ xs ∧ xs.length ≤ 1000 ∧ Q (.int (xs.findIdx fun z => decide (z = a) : Nat)) H
theorem idx_eq (xs : List α) (a : α) : xs.idxOf a = xs.findIdx fun z => decide (z = a) := by
  unfold List.idxOf
  refine congrArg (fun p => xs.findIdx p) (funext fun z => ?_)
  exact beq_decide z a
theorem mt_indexF (α : Type) [DecidableEq α] [Datum α] [Fl α] (hu : X.A.units + 64 < cLine) : MtR X "list.index" (rIndexF α) := by
  intro pins s σ H x xs v us Q I rx rxs h
  obtain ⟨y, a, ys, rfl, ⟨p, vs, rfl, e2, h1⟩, ha, hd, hm, hl, q⟩ := h
  cases rx
  obtain ⟨u, rfl, ry⟩ := vals1 rxs
  obtain ⟨its, rv, ht⟩ := lst_of I.hok e2
  have hz : ys.length ≤ sizeLine := Nat.le_of_lt (small1000 hl)
  refine index_list_datum ht (h1.hold I.hok rv) (Fl.holds I.hok ry ha) (by omega) hz hm ⟨.int _, H, I.tok _, ⟨_, rfl⟩, ?_⟩
  rw [idx_eq]
  exact q
/-- l.index: over typed lists; len of a typed list -/
theorem LAt.sq {K : PySem.W.Frag} {H : Hp} {v : V} {xs : List α} (h : LAt H v xs) : ∃ p vs, v = .ref p ∧ SqL K H p vs ∧ vs.length = xs.length := by
  obtain ⟨p, vs, e, e2, h1⟩ := h
  exact ⟨p, vs, e, SqL.of e2, h1.len⟩

/-- sorted(xs) of typed items -/
def srtF [DatumOrd α] (xs : List α) : List α := xs.mergeSort (dataLe false Datum.toD)
end
section
variable {X : Cx} {α : Type} [DecidableEq α] [DatumOrd α] [Fl α]
theorem each_of {R : Value → α → Prop} {H : Hp} : ∀ {vs : List V} {xs : List α} {us : List Value}, AllAt H vs xs → Vals vs us → (∀ v x u, Fl.at_ H v x → RelV v u → R u x) → EachIs R us xs
  | [], [], _, _, .nil, _ => .nil
  | v :: vs, x :: xs, _, ⟨a, b⟩, .cons r t, f => .cons (f _ _ _ a r) (each_of b t f)
  | [], _ :: _, _, h, _, _ => h.elim
  | _ :: _, [], _, h, _, _ => h.elim
theorem of_each {H : Hp} : ∀ {us : List Value} {xs : List α}, EachIs (fun u x => ∃ v, RelV v u ∧ Fl.at_ H v x) us xs → ∃ vs, Vals vs us ∧ AllAt H vs xs
  | _, _, .nil => ⟨[], .nil, True.intro⟩
  | _, _, .cons ⟨v, r, a⟩ t => by
    obtain ⟨vs, h1, h2⟩ := of_each t
    exact ⟨v :: vs, .cons r h1, a, h2⟩
/-- what can be sorted: texts, numbers, or tuples -/
def SortOk (α : Type) [DecidableEq α] [DatumOrd α] : Prop := (∀ b : α, ∃ x r, Datum.toD b = .tuple (x :: r)) ∨ (∀ b : α, Datum.toD b ≠ .none ∧ ∀ xs, Datum.toD b ≠ .tuple xs)
theorem sortOk_str : SortOk Str := .inr fun b => ⟨fun e => (nomatch (show PyData.str b = .none from e)), fun xs e => (nomatch (show PyData.str b = .tuple xs from e))⟩
theorem sortOk_pair {β γ : Type} [DecidableEq β] [DatumOrd β] [DecidableEq γ] [DatumOrd γ] : SortOk (β × γ) := .inl fun b => ⟨_, _, rfl⟩
theorem sortOk_t3 {β γ δ : Type} [DecidableEq β] [DatumOrd β] [DecidableEq γ] [DatumOrd γ] [DecidableEq δ] [DatumOrd δ] : SortOk (T3 β γ δ) := .inl fun b => ⟨_, _, rfl⟩
def rSortF (α : Type) [DecidableEq α] [DatumOrd α] [Fl α] : List V → Hp → VK → Prop := fun us H Q => ∃ (y : V) (xs : List α), us = [y] ∧ LAt H y xs ∧ Datum.depth α ≤ 30 ∧ xs.length ≤ 1000 ∧ SortOk α ∧ ∀ D ws, H D = none → AllAt H ws (srtF xs) → Q (.ref D) (upd H D (.lst ws))
theorem cr_sortF (α : Type) [DecidableEq α] [DatumOrd α] [Fl α] (hu : X.A.units + 64 < cLine) : CallR X (.builtin "sorted") (rSortF α) := by
  intro pins s σ H vs us Q I r h
  obtain ⟨y, xs, rfl, ⟨p, ys, rfl, e2, h1⟩, hd, hl, so, q⟩ := h
  obtain ⟨u, rfl, ry⟩ := vals1 r
  cases ry
  obtain ⟨its, rv, ht⟩ := lst_of I.hok e2
  refine sorted_data (R := fun u x => ∃ v, RelV v u ∧ Fl.at_ H v x) (enc := Datum.toD) (bs := xs) ht (each_of h1 rv fun v x u a b => ⟨v, b, a⟩) (each_of h1 rv fun v x u a b => Fl.holds I.hok b a)
    (AllAlike.of fun b b' => DatumOrd.alike b b') ?_ (Nat.le_of_lt (small1000 hl)) (fun b _ => ?_) fun out ho eo => ?_
  · rcases so with so | so
    · exact Sortable.tuples so
    · exact Sortable.others so
  · have := Datum.depth_le b
    omega
  · obtain ⟨ws, h2, h3⟩ := of_each eo
    obtain ⟨ep, he'⟩ := PyProof.Rows.sortedAll_at s.heap its out.toArray
    have hlen : ws.length ≤ sizeLine := by
      rw [h3.len]
      rw [List.length_mergeSort]
      exact Nat.le_of_lt (small1000 hl)
    exact ⟨.ref _, upd H (s.heap.objs.size + 1) (.lst ws), I.laid (t' := s.toks) (fun _ _ => PyProof.Rows.sortedAll_old) (Nat.le_succ _) ⟨hlen, out, ep, h2, he'⟩, rfl, q _ ws (I.hok.fresh (Nat.le_succ _)) h3⟩
end

/-! ### min, max of texts -/
section
variable {prog : Program} {w : World} {A : Around} {E : Value → Shared → Prop} {s : Shared} {Q : Value → Shared → Prop}
theorem lt_strs {a b : Str} {t u : Tok} (hu : A.units < cLine) (h : Q (.bool (DatumOrd.lt a b)) s) : wpAny (model prog w) A (richCompare .Lt (.str a t) (.str b u)) Q E s :=
  lt_datum (holds_str a t) (holds_str b u) hu h
theorem gt_strs {a b : Str} {t u : Tok} (hu : A.units < cLine) (h : Q (.bool (DatumOrd.lt b a)) s) : wpAny (model prog w) A (richCompare .Gt (.str a t) (.str b u)) Q E s :=
  gt_datum (holds_str a t) (holds_str b u) hu h
/-- the texts of a pair, by their places -/
def txt2 (a b : Str) (i : Nat) : Str := if i = 0 then a else b
theorem at2 {a b : Str} {t u : Tok} : ∀ {i : Nat} {v : Value}, (#[Value.str a t, .str b u] : Array Value)[i]? = some v → ∃ z, v = .str (txt2 a b i) z
  | 0, _, rfl => ⟨t, rfl⟩
  | 1, _, rfl => ⟨u, rfl⟩
  | _ + 2, _, h => nomatch h
/-- the pair that min and max make of their two arguments, and its iterator -/
abbrev pairO (x y : Value) : Obj := { cls := .type "tuple", data := .seq #[x, y] }
theorem pair_at (h : Heap) (x y : Value) : (h.push (pairO x y)).IsTuple h.objs.size #[x, y] := ⟨_, Heap.get?_push_size _ rfl, rfl, 0, rfl⟩
theorem pair_size (h : Heap) (o : Obj) : h.objs.size < (h.push o).objs.size := by
  rw [Heap.size_push]
  exact Nat.lt_succ_self _
theorem pair_in (h : Heap) (o p : Obj) : ∀ c ∈ [(h.push o).objs.size, h.objs.size], c < ((h.push o).push p).objs.size := by
  simp only [List.mem_cons, List.not_mem_nil, or_false]
  rintro c (rfl | rfl)
  · exact pair_size _ p
  · exact Nat.lt_trans (pair_size h o) (pair_size _ p)
theorem pair_old {h g : Heap} {o p : Obj} (k : ∀ c u, c ∉ [(h.push o).objs.size] → ((h.push o).push p).get? c = some u → g.get? c = some u) : ∀ c u, h.get? c = some u → g.get? c = some u := fun c u e =>
  k c u (fun z => Nat.lt_asymm (List.mem_singleton.mp z ▸ pair_size h o) (Heap.lt_size e)) (Heap.get?_push_of_some p (Heap.get?_push_of_some o e))
theorem min_two_strs {a b : Str} {t u : Tok} (hh : A.handled = none) (hu : A.units + 64 < cLine)
    (h : ∀ g k, (∀ c o, s.heap.get? c = some o → g.get? c = some o) → Q (if DatumOrd.lt b a = true then .str b u else .str a t) { s with heap := g, toks := k }) : wpAny (model prog w) A (call (.builtin "min") [.str a t, .str b u]) Q E s := by
  have less : A.in1.units < cLine := Nat.lt_of_le_of_lt (Nat.add_le_add_left (by decide : 1 ≤ 64) _) hu
  have walk := Walks.tuple (prog := prog) (w := w) (A := A.in1) hh (s.heap.push (pairO (.str a t) (.str b u))).objs.size s.heap.objs.size (Nat.ne_of_lt (pair_size _ _)) #[.str a t, .str b u]
  refine call_min_two (wpAny_pyIter_tuple (pair_at s.heap (.str a t) (.str b u)) ?_)
  refine ⟨_, _, _, _, _, _, fun i j => DatumOrd.lt (txt2 a b i) (txt2 a b j), rfl, walk, ⟨⟨_, Heap.get?_push_size _ rfl, rfl, rfl⟩, (pair_at _ _ _).push _⟩, pair_in _ _ _, Nat.zero_lt_succ 1, ?_, ?_⟩
  · intro i j x y r R F hx hy q
    obtain ⟨_, rfl⟩ := at2 hx
    obtain ⟨_, rfl⟩ := at2 hy
    exact lt_strs less q
  · intro v g k best kept
    have fin := h g k (pair_old kept)
    by_cases c : DatumOrd.lt b a = true
    · rw [if_pos c] at fin
      have e : argBest (fun i j => DatumOrd.lt (txt2 a b i) (txt2 a b j)) 1 = 1 := if_pos c
      cases (congrArg (fun i => (#[Value.str a t, .str b u] : Array Value)[i]?) e).symm.trans best
      exact fin
    · rw [if_neg c] at fin
      have e : argBest (fun i j => DatumOrd.lt (txt2 a b i) (txt2 a b j)) 1 = 0 := if_neg c
      cases (congrArg (fun i => (#[Value.str a t, .str b u] : Array Value)[i]?) e).symm.trans best
      exact fin
theorem max_two_strs {a b : Str} {t u : Tok} (hh : A.handled = none) (hu : A.units + 64 < cLine)
    (h : ∀ g k, (∀ c o, s.heap.get? c = some o → g.get? c = some o) → Q (if DatumOrd.lt a b = true then .str b u else .str a t) { s with heap := g, toks := k }) : wpAny (model prog w) A (call (.builtin "max") [.str a t, .str b u]) Q E s := by
  have less : A.in1.units < cLine := Nat.lt_of_le_of_lt (Nat.add_le_add_left (by decide : 1 ≤ 64) _) hu
  have walk := Walks.tuple (prog := prog) (w := w) (A := A.in1) hh (s.heap.push (pairO (.str a t) (.str b u))).objs.size s.heap.objs.size (Nat.ne_of_lt (pair_size _ _)) #[.str a t, .str b u]
  refine call_max_two (wpAny_pyIter_tuple (pair_at s.heap (.str a t) (.str b u)) ?_)
  refine ⟨_, _, _, _, _, _, fun i j => DatumOrd.lt (txt2 a b j) (txt2 a b i), rfl, walk, ⟨⟨_, Heap.get?_push_size _ rfl, rfl, rfl⟩, (pair_at _ _ _).push _⟩, pair_in _ _ _, Nat.zero_lt_succ 1, ?_, ?_⟩
  · intro i j x y r R F hx hy q
    obtain ⟨_, rfl⟩ := at2 hx
    obtain ⟨_, rfl⟩ := at2 hy
    exact gt_strs less q
  · intro v g k best kept
    have fin := h g k (pair_old kept)
    by_cases c : DatumOrd.lt a b = true
    · rw [if_pos c] at fin
      have e : argBest (fun i j => DatumOrd.lt (txt2 a b j) (txt2 a b i)) 1 = 1 := if_pos c
      cases (congrArg (fun i => (#[Value.str a t, .str b u] : Array Value)[i]?) e).symm.trans best
      exact fin
    · rw [if_neg c] at fin
      have e : argBest (fun i j => DatumOrd.lt (txt2 a b j) (txt2 a b i)) 1 = 0 := if_neg c
      cases (congrArg (fun i => (#[Value.str a t, .str b u] : Array Value)[i]?) e).symm.trans best
      exact fin
end
section
variable {X : Cx}
theorem cr_min2S (hc : X.calm = true) (hu : X.A.units + 64 < cLine) : CallR X (.builtin "min") (fun xs H Q => ∃ a b, xs = [.str a, .str b] ∧ Q (.str (if DatumOrd.lt b a = true then b else a)) H) := by
  rintro pins s σ H _ us Q I r ⟨a, b, rfl, q⟩
  obtain ⟨_, _, rfl, ⟨t, rfl⟩, ⟨t', rfl⟩⟩ := vals2 r
  refine min_two_strs (I.ok.hd hc) hu fun g k kept => ⟨_, H, I.kept kept, ?_, q⟩
  split
  · exact ⟨t', rfl⟩
  · exact ⟨t, rfl⟩
theorem cr_max2S (hc : X.calm = true) (hu : X.A.units + 64 < cLine) : CallR X (.builtin "max") (fun xs H Q => ∃ a b, xs = [.str a, .str b] ∧ Q (.str (if DatumOrd.lt a b = true then b else a)) H) := by
  rintro pins s σ H _ us Q I r ⟨a, b, rfl, q⟩
  obtain ⟨_, _, rfl, ⟨t, rfl⟩, ⟨t', rfl⟩⟩ := vals2 r
  refine max_two_strs (I.ok.hd hc) hu fun g k kept => ⟨_, H, I.kept kept, ?_, q⟩
  split
  · exact ⟨t', rfl⟩
  · exact ⟨t, rfl⟩
/-- min(l), l a list of texts -/
theorem cr_minS (hc : X.calm = true) (hu : X.A.units + 64 < cLine) : CallR X (.builtin "min") (fun vs H Q => ∃ (y : V) (x : Str) (xs : List Str), vs = [y] ∧ LAt H y (x :: xs) ∧ Q (.str (minOf x xs)) H) := by
  intro pins s σ H vs us Q I r h
  obtain ⟨y, x, xs, rfl, ⟨p, ys, rfl, e2, h1⟩, q⟩ := h
  obtain ⟨u, rfl, ry⟩ := vals1 r
  cases ry
  obtain ⟨its, rv, ht⟩ := lst_of I.hok e2
  refine min_list_datum (I.ok.hd hc) ht (h1.hold I.hok rv) (by show X.A.units + 1 + 0 < cLine; omega) fun i v h' tk _ hv hk => ?_
  obtain ⟨t, rfl⟩ := str_of_holds hv
  exact ⟨.str _, H, I.kept hk, ⟨t, rfl⟩, q⟩
end
end W0
-- text W1
set_option Elab.async false
set_option linter.all false
set_option maxRecDepth 100000
set_option maxHeartbeats 2000000
/-! any(.. for x in e), e a list: the making of the generator, its walk, its end; own work over the library's rule for generator expressions -/
namespace W1
open PySem PySem.Spec PyProof.Rows L2 W0
open GxR (TabB TabG Tabbed GenS)

/-- g is h with a longer table at P, and maybe more objects -/
structure Grown (P : Addr) (ps more : Array Value) (h g : Heap) : Prop where
  tab : g.get? P = some { cls := .none, data := .fields (ps ++ more) }
  ok : TriplesOk (ps ++ more).toList
  old : Heap.ExtBut P h g
  size : h.objs.size ≤ g.objs.size
/-- the element of the generator: at item i of its the truth tr i, wherever what stood in h is left alone, the table apart -/
def Elt (X : Cx) (P : Addr) (scope : Scope) (x : Str) (elt : Expr) (h : Heap) (its : List Value) (tr : Nat → Bool) : Prop :=
  ∀ (ce : Env) (B : Around) (E : Value → Shared → Prop) (i : Nat) (v : Value) (t : Shared) (m : Str → Option Value), ce.scope = scope → ce.cells = cloFrom X.env.cells scope.names [] → its[i]? = some v →
    t.heap.Ns ce.locals m → m x = some v → (∀ b u, b ≠ P → h.get? b = some u → t.heap.get? b = some u) → wpAny (model X.prog X.w) B (eval elt ce) (fun y t' => y = .bool (tr i) ∧ Keeps t t') E t
section
variable {X : Cx} {pins : List (Addr × Obj)} {σ : L2.St} {H : Hp} {s : Shared} {c P : Addr} {ps : Array Value}
theorem tab_at (I : Inv X pins σ H s) (hP : H P = some (.tbl ps)) : s.heap.get? P = some { cls := .none, data := .fields ps } := I.hok P _ hP
theorem statics_ne (I : Inv X pins σ H s) (hP : H P = some (.tbl ps)) : cStatics ≠ P := by
  rintro rfl
  obtain ⟨m, ⟨u, es, ep, hu, hd, _⟩, _⟩ := I.nolimit
  cases hu.symm.trans (tab_at I hP)
  cases hd
theorem statics_lt (I : Inv X pins σ H s) : cStatics < s.heap.objs.size := by
  obtain ⟨m, hm, _⟩ := I.nolimit
  exact hm.lt
/-- behind the making of the code object, looked up or found, and the look for the built-ins: the table has grown, nothing else -/
theorem made {o : Obj} {at_ : Pos} {qual : Str} {scope : Scope} {Φ : Value → Addr → Shared → Prop} (TB : TabB X.base X.mg c P) (hc : X.env.code = .ref c) (I : Inv X pins σ H s) (hP : H P = some (.tbl ps)) (ht : TriplesOk ps.toList)
    (go : ∀ (code : Value) (bi : Addr) (g : Heap) (tk : Nat) (more : Array Value), Grown P ps more (s.heap.push o) g → Φ code bi { s with heap := g, toks := tk }) :
    wpAny (model X.prog X.w) X.A (genexprCode X.env at_ qual scope) (fun code s3 => wpAny (model X.prog X.w) X.A (builtinsFor X.env.globals X.env.builtins) (fun bi s4 => Φ code bi s4) X.xe s3) X.xe { s with heap := s.heap.push o } := by
  have up : ∀ b u, X.base.get? b = some u → (s.heap.push o).get? b = some u := fun b u e => Heap.get?_push_of_some o (I.bk b u e)
  have hd := TB.code.keeps up
  have tP : (s.heap.push o).get? P = some { cls := .none, data := .fields ps } := Heap.get?_push_of_some o (tab_at I hP)
  -- the built-ins are found in every grown heap
  have fin : ∀ (code : Value) (g : Heap) (tk : Nat) (more : Array Value), Grown P ps more (s.heap.push o) g → wpAny (model X.prog X.w) X.A (builtinsFor X.env.globals X.env.builtins) (fun bi s4 => Φ code bi s4) X.xe { s with heap := g, toks := tk } := by
    intro code g tk more G
    obtain ⟨bm, ob, q1, q2, q3, q4, q5, q6, q7, q8⟩ := TB.bm
    have ns : g.Ns X.env.globals X.mg := by
      rw [I.ok.glob]
      exact (I.mod.glob.keeps up).extBut G.old TB.gP
    exact wpAny_builtinsFor ns q1 q2 (G.old _ _ q4 (up _ _ q5)) q6 q7 q8 (go _ _ g tk more G)
  rcases e : codeAmong at_ ps.toList with _ | old
  · refine wpAny_genexprCodeX hc (hd.code tP ht) (hd.tab tP) e ?_
    intro c' g tk keep ge lt ic _ tb _
    refine fin _ g tk _ ⟨tb.2, ?_, keep, Nat.le_trans ge (Nat.le_of_lt lt)⟩
    obtain ⟨_, _, _, _, _, _, _, _, _, _, _, _, _, _, _, _, _, _, _, tr, _⟩ := ic
    exact tr
  · exact wpAny_genexprCode_hit hc (hd.code tP ht) e (fin old (s.heap.push o) s.toks #[] ⟨by simpa using tP, by simpa using ht, Heap.ExtBut.refl _ _, Nat.le_refl _⟩)

/-- a generator g over n truths, that leaves H but for its table -/
structure Gener (X : Cx) (pins : List (Addr × Obj)) (σ : L2.St) (H : Hp) (P : Addr) (n : Nat) (tr : Nat → Bool) (g : Addr) (s5 : Shared) : Prop where
  ex : ∃ (fp wr : List Addr) (G : Array GenState → Array GenState → Prop) (F : Nat → Value → Prop) (S : Nat → Shared → Prop), WalksS X.prog X.w X.A.in1 g fp wr G n F S ∧ S 0 s5 ∧ TruthOf X.prog X.w X.A.in1 F tr ∧
    ∀ s6, Moved wr G s5 s6 → ∃ H', Tabbed P H H' ∧ Inv X pins σ H' s6
/-- the generator over a list is made -/
theorem over_list {elt iter : Expr} {x : Str} {px at_ : Pos} {scope : Scope} {k : Nat} {Q : Value → Shared → Prop} (hr : Room k X.A) (TB : TabB X.base X.mg c P) (hc : X.env.code = .ref c) (S : GenS X.env scope x)
    (plain : ∀ v, genFold iter X.env v = pure v) {s0 : Shared}
    (ev : wpAny (model X.prog X.w) X.A (eval iter X.env) (fun v s => ∃ (l : Addr) (its : List Value) (H : Hp) (ps : Array Value) (tr : Nat → Bool), v = .ref l ∧ s.heap.IsList l its.toArray ∧ l ≠ P ∧ Inv X pins σ H s ∧ H P = some (.tbl ps) ∧ TriplesOk ps.toList ∧ Elt X P scope x elt s.heap its tr ∧
      ∀ g s5, Gener X pins σ H P its.length tr g s5 → Q (.ref g) s5) X.xe s0) :
    wpAny (model X.prog X.w) X.A (eval (.GeneratorExp elt [⟨.Name x px, iter, [], 0⟩] scope at_) X.env) Q X.xe s0 := by
  refine wpAny_GeneratorExp_walksQ hr.hd S.co (closure_ok S.free) S.cell S.dot S.loc S.kind hr.depth (wpAny_mono ev (fun v s hv => ?_) fun _ _ e => e) plain
  obtain ⟨l, its, H, ps, tr, rfl, hl, lP, I, hP, ht, hE, done⟩ := hv
  have lLt : l < s.heap.objs.size := by
    obtain ⟨_, e, _⟩ := hl
    exact Heap.lt_size e
  have pLt : P < s.heap.objs.size := Heap.lt_size (tab_at I hP)
  -- the iterator is the new object at the heap's end; it alone is written
  generalize hn : s.heap.objs.size = n at lLt pLt
  refine wpAny_pyIter_list hl ⟨I.nolimit.push _, made TB hc I hP ht ?_⟩
  intro code bi g tk more G
  rw [hn]
  have room : n < g.objs.size := by
    have z := G.size
    rw [Heap.size_push, hn] at z
    exact z
  have stay : ∀ b u, b ≠ P → s.heap.get? b = some u → g.get? b = some u := fun b u ne e => G.old b u ne (Heap.get?_push_of_some _ e)
  have iterAt : g.get? n = some { cls := .type "list_iterator", data := .fields #[.ref l, .int 0 0] } := by
    refine G.old n _ (Nat.ne_of_gt pLt) ?_
    rw [← hn]
    exact Heap.get?_push_size _ rfl
  have walk : ∀ B : Around, B.handled = none → Walks X.prog X.w B n [n, l] [n] its.toArray.size (fun i v => its.toArray[i]? = some v) (fun i h => h.IsListIter n l i ∧ h.IsList l its.toArray) := fun B hB => Walks.list hB n l (Nat.ne_of_lt lLt) its.toArray
  have listAt : g.IsList l its.toArray := by
    obtain ⟨u, e, r⟩ := hl
    exact ⟨u, stay l u lP e, r⟩
  have olds : ∀ b u, s.heap.get? b = some u → b < n := fun b u e => hn ▸ Heap.lt_size e
  refine ⟨n, [n, l], [n], its.toArray.size, _, _, fun _ => true, fun i y => i < its.length ∧ y = .bool (tr i), rfl, walk, ⟨⟨_, iterAt, rfl, rfl⟩, listAt⟩, ?_, (I.nolimit.push _).extBut G.old (statics_ne I hP), ?_, ?_, ?_⟩
  · simp only [List.mem_cons, List.not_mem_nil, or_false]
    rintro b (rfl | rfl)
    · exact room
    · exact Nat.lt_trans lLt room
  · intro z
    cases List.mem_singleton.mp z
    exact Nat.lt_irrefl _ (hn ▸ statics_lt I)
  · intro ref kept
    constructor
    · intro B E i v t m _ _ _ _ _
      rw [List.forIn_nil]
      exact wpAny_pure ⟨rfl, GxR.keeps_refl t⟩
    · intro B E i v t m _ item _ ns mx left
      have item' : its[i]? = some v := List.getElem?_toArray ▸ item
      refine wpAny_mono (hE _ B E i v t m rfl rfl item' ns mx fun b u ne e => ?_) (fun y t' r => ⟨⟨(List.getElem?_eq_some_iff.mp item').1, r.1⟩, r.2⟩) fun _ _ e => e
      have bn := olds b u e
      exact left b (List.mem_range.mpr (Nat.lt_trans bn room)) (fun z => Nat.lt_irrefl _ (List.mem_singleton.mp z ▸ bn)) u (kept b u (stay b u ne e))
  · intro ga g5 tk5 gs bare above _ keep5 W at0
    rw [GxR.passing_true, List.length_range, List.size_toArray] at W
    rw [List.size_toArray] at at0
    refine done ga _ ⟨⟨_, _, _, _, _, W.in4_1, at0, ?_, ?_⟩⟩
    · rintro j y t R E ⟨i, ij, _, rfl⟩ hR
      have e : i = j := by
        obtain ⟨lt, z⟩ := List.getElem?_eq_some_iff.mp ij
        rw [← z, List.getElem_range]
      exact wpAny_truthy_bool (e ▸ hR)
    · intro s6 mv
      -- what stood before the generator is none of the two written objects
      have out : ∀ b u, s.heap.get? b = some u → b ∉ g.objs.size :: [n] := by
        intro b u e z
        have bn := olds b u e
        simp only [List.mem_cons, List.not_mem_nil, or_false] at z
        rcases z with rfl | rfl
        · exact Nat.lt_asymm bn room
        · exact Nat.lt_irrefl _ bn
      have J := GxR.inv_tab (more := more) (d' := s6.drawn) (t' := s6.toks) I hP (fun b u ne e => mv.heap b u (out b u e) (keep5 b u (stay b u ne e))) (mv.heap P _ (out P _ (tab_at I hP)) (keep5 P _ G.tab)) (AllBare.movedS (I.bare.push bare) mv)
      exact ⟨_, ⟨⟨_, upd_same, G.ok⟩, fun b ne => upd_ne ne⟩, GxR.sh_eta s s6 mv.os ▸ J⟩
end

theorem flat_strs (ys : List Str) : (ys.map V.str).all flatV = true := List.all_eq_true.mpr fun v hv => by
  obtain ⟨_, _, rfl⟩ := List.mem_map.mp hv
  rfl
theorem any_in (w : Str) : ∀ ys : List Str, (ys.map V.str).any (fun z => eqV z (.str w)) = decide (w ∈ ys)
  | [] => by simp
  | y :: ys => by
    have e : eqV (.str y) (.str w) = (y == w) := rfl
    rw [List.map_cons, List.any_cons, any_in w ys, e, Bool.eq_iff_iff, Bool.or_eq_true, decide_eq_true_eq, decide_eq_true_eq, beq_iff_eq, List.mem_cons, eq_comm (a := y)]
/-- the truths of a list, place by place -/
theorem any_places (f : Str → Bool) (d : Str) : ∀ xs : List Str, (List.range xs.length).any (fun i => f (xs.getD i d)) = xs.any f
  | [] => rfl
  | x :: xs => by
    rw [List.length_cons, List.range_succ_eq_map, List.any_cons, List.any_map, List.any_cons, ← any_places f d xs]
    rfl
section
variable {X : Cx} {pins : List (Addr × Obj)} {σ : L2.St} {H : Hp} {s : Shared}
/-- x in y, y a captured name that holds a list of texts -/
theorem elt_in {P b cy : Addr} {scope : Scope} {x y : Str} {p1 p2 p3 : Pos} {h : Heap} {xs ys : List Str} {its itb : List Value} (S : GenS X.env scope x) (rv : Vals (xs.map V.str) its) (rb : Vals (ys.map V.str) itb) (hb : h.IsList b itb.toArray) (bP : b ≠ P)
    (hcy : (cloFrom X.env.cells scope.names []).lookup y = some cy) (hcell : h.IsCell cy (some (.ref b))) (cP : cy ≠ P) (hyl : scope.names.lookup y = some .free) (hd : (x == ("__debug__" : Str)) = false) (hd2 : (y == ("__debug__" : Str)) = false) (hcd : (y == ("__classdict__" : Str)) = false) :
    Elt X P scope x (.Compare (.Name x p1) [.In] [.Name y p2] p3) h its fun i => decide (xs.getD i "" ∈ ys) := by
  intro ce B E i v t m hsc hcl item ns mx left
  obtain ⟨lt, _⟩ := List.getElem?_eq_some_iff.mp item
  have lt' : i < xs.length := by
    have z := rv.length
    rw [List.length_map] at z
    exact z ▸ lt
  obtain ⟨u, hu, tu, rfl⟩ : ∃ u, its[i]? = some u ∧ ∃ tu, u = Value.str (xs.getD i "") tu := by
    have here : (xs.map V.str)[i]? = some (.str (xs.getD i "")) := by
      rw [List.getElem?_map, List.getD_eq_getElem?_getD, List.getElem?_eq_getElem lt']
      rfl
    obtain ⟨u, hu, tu, e⟩ := rv.get here
    exact ⟨u, hu, tu, e⟩
  cases hu.symm.trans item
  have kind : ce.scope.kind = .function := hsc ▸ S.kind
  have xk : ce.scope.names.lookup x = some .local := hsc ▸ S.loc
  have yk : ce.scope.names.lookup y = some .free := hsc ▸ hyl
  have yc : ce.cells.lookup y = some cy := hcl ▸ hcy
  refine wpAny_Compare1 (wpAny_Name (wpAny_loadName_local kind xk ns mx ?_) hd)
  refine wpAny_Name (wpAny_loadName_free kind yk yc (v := .ref b) ?_ ?_ hcd) hd2
  · obtain ⟨oc, e1, e2⟩ := hcell
    exact ⟨oc, left cy oc cP e1, e2⟩
  · have hb2 : t.heap.IsList b itb.toArray := by
      obtain ⟨ol, e1, e2⟩ := hb
      exact ⟨ol, left b ol bP e1, e2⟩
    refine SeqAt.in_listAt (eqU (.str (xs.getD i ""))) hb2 (fun w hw => mem_eqAt (show RelV (.str (xs.getD i "")) (.str (xs.getD i "") tu) from ⟨tu, rfl⟩) rfl rb (flat_strs ys) w (by simpa using hw)) ⟨?_, GxR.keeps_refl t⟩
    rw [List.any_toArray, any_eqU rb (flat_strs ys), any_in]
/-- any(x in y for x in e), x and y lists of texts: behind it the def's table may have grown -/
def tAnyL (P : Addr) (iy : Nat) (te : TE) : TE := fun σ H Q => te σ H fun v H1 => ∃ (xs ys : List Str) (vy : V), LAt H1 v xs ∧ σ[iy]? = some (some vy) ∧ LAt H1 vy ys ∧ TabG H1 P ∧ ∀ H2, Tabbed P H1 H2 → Q (.bl (xs.any fun w => decide (w ∈ ys))) H2
/-- the cell of a captured name -/
theorem cell_of {i : Nat} {y : Str} {b : Addr} (I : Inv X pins σ H s) (hN : X.N[i]? = some y) (hy : X.env.scope.names.lookup y = some .cell) (hσ : σ[i]? = some (some (.ref b))) : ∃ cy, X.env.cells.lookup y = some cy ∧ s.heap.IsCell cy (some (.ref b)) := by
  obtain ⟨m, _, slots⟩ := I.loc
  obtain ⟨u, ru, at_⟩ := slots i y _ hN hσ (.inr (.inl hy))
  cases ru
  rcases at_ with ⟨z, _⟩ | ⟨_, cy, e1, e2⟩
  · cases hy.symm.trans z
  · exact ⟨cy, e1, e2⟩
theorem pe_anyL {c P : Addr} {iter : Expr} {x y : Str} {px p1 p2 p3 p pos gpos : Pos} {scope : Scope} {te : TE} {k iy : Nat} (hr : Room k X.A) (hg : Gl X "any") (hm : X.mg "any" = none) (TB : TabB X.base X.mg c P) (hc : X.env.code = .ref c) (S : GenS X.env scope x) (hi : PE X iter te)
    (hN : X.N[iy]? = some y) (hyk : X.env.scope.names.lookup y = some .cell) (hyf : (y, NameKind.free) ∈ scope.names) (hyl : scope.names.lookup y = some .free) (plain : ∀ v, genFold iter X.env v = pure v)
    (hd : (x == ("__debug__" : Str)) = false := by decide) (hd2 : (y == ("__debug__" : Str)) = false := by decide) (hcd : (y == ("__classdict__" : Str)) = false := by decide)
    (he : starEach [.GeneratorExp (.Compare (.Name x p1) [.In] [.Name y p2] p3) [⟨.Name x px, iter, [], 0⟩] scope gpos] X.env = (false, eval (.GeneratorExp (.Compare (.Name x p1) [.In] [.Name y p2] p3) [⟨.Name x px, iter, [], 0⟩] scope gpos) X.env) :: starEach [] X.env := by rfl) :
    PE X (.Call (.Name "any" p) [.GeneratorExp (.Compare (.Name x p1) [.In] [.Name y p2] p3) [⟨.Name x px, iter, [], 0⟩] scope gpos] [] pos) (tAnyL P iy te) := by
  constructor
  intro pins s σ H Q I h
  refine wpAny_Call_Name_kw (ld_blt I hg hm boot_any (PyProof.Rows.callWith_builtin1 ?_ he (by rfl)))
  rw [he]
  refine Calls.spliced_cons (over_list (pins := pins) (σ := σ) hr TB hc S plain (wpAny_mono (hi.run pins s σ H _ I h) (fun v s1 hv => ?_) fun _ _ e => e))
  obtain ⟨v', H1, I1, r1, xs, ys, vy, ⟨l, vs, rfl, hl, hA⟩, hσ, ⟨b, us, rfl, hb, hB⟩, ⟨ps, hP, ht⟩, q⟩ := hv
  cases r1
  obtain rfl := hA.strs
  obtain rfl := hB.strs
  obtain ⟨its, rv, isl⟩ := lst_of I1.hok hl
  obtain ⟨itb, rb, isb⟩ := lst_of I1.hok hb
  obtain ⟨cy, hcy, hcell⟩ := cell_of I1 hN hyk hσ
  have tP := tab_at I1 hP
  have cP : cy ≠ P := by
    rintro rfl
    obtain ⟨o, e1, e2⟩ := hcell
    cases e1.symm.trans tP
    cases e2
  have elt := elt_in (P := P) (p1 := p1) (p2 := p2) (p3 := p3) S rv rb isb (ne_of hb hP (by intro z; cases z)) (NdefX.clo_has S.free hyf hcy) hcell cP hyl hd hd2 hcd
  refine ⟨l, its, H1, ps, _, rfl, isl, ne_of hl hP (by intro z; cases z), I1, hP, ht, elt, fun g s5 G => ?_⟩
  obtain ⟨fp, wr, Gs, F, St, W, at0, truth, back⟩ := G.ex
  refine Calls.spliced_nil (call_any_walkS (W.self 0 _ _ _ at0 ⟨g, fp, wr, Gs, _, F, St, _, rfl, W, at0, truth, fun s6 mv => ?_⟩))
  obtain ⟨H2, tb, J⟩ := back s6 mv
  have n : its.length = xs.length := by rw [← rv.length, List.length_map]
  refine ⟨.bl _, H2, J, rfl, ?_⟩
  rw [n, any_places (fun w => decide (w ∈ ys)) "" xs]
  exact q H2 tb
end
end W1
-- text W2
set_option Elab.async false
set_option linter.all false
set_option maxRecDepth 100000
/-! the text by places; loops over typed items; own work -/
namespace W2
open PySem PySem.W L2 W0 W1 TM

def top (i : Nat) : Stmt := PySem.Challenge.pw_treeserved_k55_whole_rounds_and_their_re.main.body.getD i (.Pass ⟨0, 0, 0, 0⟩)
abbrev sNames : Stmt := top 1
abbrev sNbrs : Stmt := top 2
abbrev sPath : Stmt := top 3
abbrev sLenb : Stmt := top 4
abbrev sDist : Stmt := top 5
abbrev sSides : Stmt := top 6
abbrev sBeyond : Stmt := top 8
abbrev sNeeded : Stmt := top 9
abbrev sEdgeOf : Stmt := top 10
abbrev sWlen : Stmt := top 11
abbrev sWalk : Stmt := top 12
abbrev sRound : Stmt := top 13
abbrev sEnd : Stmt := top 14
abbrev sTrip : Stmt := top 15
abbrev sReason : Stmt := top 16
abbrev sTripR : Stmt := top 17
abbrev sCell : Stmt := top 19
abbrev sDraw : Stmt := top 20
abbrev sTree : Stmt := top 21
abbrev sLNames : Stmt := top 22
abbrev sSome : Stmt := top 23
abbrev sLaw : Stmt := top 24

/-- the built-ins that the text names are still the built-ins -/
structure Bi (mg : Str → Option Value) : Prop where
  sorted : mg "sorted" = none
  sum : mg "sum" = none
  range : mg "range" = none
  len : mg "len" = none
  any : mg "any" = none
  min : mg "min" = none
  max : mg "max" = none
  list : mg "list" = none
  tuple : mg "tuple" = none

/-- a tree at a value -/
def TrAt (H : Hp) (v : V) (T : Tr) : Prop := ∃ p a b, v = .ref p ∧ H p = some (.tup [a, b]) ∧ TAt H a T.ns ∧ TAt H b T.es
theorem TrAt.keep {H H' : Hp} {v : V} {T : Tr} (k : KT H H') (h : TrAt H v T) : TrAt H' v T := by
  obtain ⟨p, a, b, e, e2, h1, h2⟩ := h
  exact ⟨p, a, b, e, k _ _ e2, h1.keep k, h2.keep k⟩
/-- a new list of these items is handed back, all else stands -/
def NewL {α : Type} [DecidableEq α] [Datum α] [Fl α] (H : Hp) (res : List α) (Q : VK) : Prop := ∀ H' p vs, Same H H' → H p = none → H' p = some (.lst vs) → AllAt H' vs res → Q (.ref p) H'
theorem same_up {H : Hp} {p : Addr} {o : HO} (h : H p = none) : Same H (upd H p o) := fun b x e => by
  rw [upd_ne (ne_of_none e h)]
  exact e
/-- a new object's list grows -/
theorem same_grow {H H1 : Hp} {p : Addr} {o : HO} (s : Same H H1) (h : H p = none) : Same H (upd H1 p o) := fun b x e => by
  rw [upd_ne (ne_of_none e h)]
  exact s _ _ e
theorem sz1000 {n : Nat} (h : n ≤ 1000) : n ≤ sizeLine := Nat.le_of_lt (small1000 h)

section
variable {α β : Type} [DecidableEq α] [Datum α] [Fl α] [DecidableEq β] [Datum β] [Fl β]
theorem fm_snoc {α β : Type} {f : α → Option β} {xs : List α} {i : Nat} {x : α} (h : xs[i]? = some x) : (xs.take (i + 1)).filterMap f = (xs.take i).filterMap f ++ (match f x with | some z => [z] | none => []) := by
  rw [List.take_add_one, h, List.filterMap_append]
  congr 1
  show List.filterMap f [x] = _
  cases e : f x <;> simp [e]
theorem fm_len {α β : Type} (f : α → Option β) (xs : List α) (i : Nat) : ((xs.take i).filterMap f).length ≤ xs.length :=
  Nat.le_trans (List.length_filterMap_le _ _) (by rw [List.length_take]; exact Nat.min_le_right _ _)
theorem fm_map {α β : Type} (f : α → β) : ∀ xs : List α, xs.filterMap (fun x => some (f x)) = xs.map f
  | [] => rfl
  | x :: xs => by rw [List.filterMap_cons, fm_map f xs]; rfl
theorem fm_filter {α : Type} (p : α → Bool) : ∀ xs : List α, xs.filterMap (fun x => if p x = true then some x else none) = xs.filter p
  | [] => rfl
  | x :: xs => by
    rw [List.filterMap_cons, fm_filter p xs, List.filter_cons]
    by_cases h : p x = true
    · simp [h]
    · simp [h]
theorem fm_both {α β : Type} (p : α → Bool) (f : α → β) : ∀ xs : List α, xs.filterMap (fun x => if p x = true then some (f x) else none) = (xs.filter p).map f
  | [] => rfl
  | x :: xs => by
    rw [List.filterMap_cons, fm_both p f xs, List.filter_cons]
    by_cases h : p x = true
    · simp [h]
    · simp [h]
/-- what the rule for a comprehension asks of the walk J behind its new list D (the body of the library's tLc, named here) -/
abbrev Runs (J : It) (g : TG) (tt : TT) (te : TE) (own : List Nat) (σ : L2.St) (H1 : Hp) (D : Addr) (Qd : Hp → Prop) : Prop :=
  ∃ W : Nat → Nat → Hp → Prop, (∃ m, W 0 m (upd H1 D (.lst [])))
    ∧ ∀ i m H, W i m H → (J.stop i H ∧ Qd H)
      ∨ (J.go i H ∧ ∃ Nx : Hp → Prop, (∀ H', Nx H' → ∃ m', m' < m ∧ W (i + 1) m' H')
        ∧ ∀ x H', J.yld i H x H' → g x (wipe σ own) H' fun σ2 H2 => wipe σ2 own = wipe σ own ∧ tt σ2 H2 fun b H3 =>
          if b = true then te σ2 H3 fun y H4 => ∃ acc, H4 D = some (.lst acc) ∧ acc.length < sizeLine ∧ Nx (upd H4 D (.lst (acc ++ [y])))
          else Nx H3)
/-- a comprehension over a list of typed items, by a function of one item -/
theorem lc_fmL {K : PySem.W.Frag} {a : Addr} {vs : List V} {xs : List α} (f : α → Option β) {g : TG} {tt : TT} {te : TE} {own : List Nat} {σ : L2.St} {H1 : Hp} {D : Addr} {Qd : Hp → Prop} (src : SqL K H1 a vs) (hx : AllAt H1 vs xs) (hlen : xs.length ≤ 1000) (hD : H1 D = none)
    (body : ∀ (x : α) (v : V) (H : Hp) (Qy : V → Hp → Prop) (Qn : Hp → Prop), x ∈ xs → Same H1 H → Fl.at_ H v x → (∀ y H4 z, f x = some z → Same H H4 → Fl.at_ H4 y z → Qy y H4) → (∀ H3, f x = none → Same H H3 → Qn H3) →
      g v (wipe σ own) H fun σ2 H2 => wipe σ2 own = wipe σ own ∧ tt σ2 H2 fun b H3 => if b = true then te σ2 H3 Qy else Qn H3)
    (hd : ∀ H ws, Same H1 H → H D = some (.lst ws) → AllAt H ws (xs.filterMap f) → Qd H) :
    Runs (Itl K a) g tt te own σ H1 D Qd := by
  refine lc_list (K := K) (a := a) (xs := vs) (fun i H => Same H1 H ∧ ∃ ws, H D = some (.lst ws) ∧ AllAt H ws ((xs.take i).filterMap f)) ⟨same_up hD, [], upd_same, by simp [AllAt]⟩ (fun i H _ h => h.1.seq src) ?_ ?_
  · rintro i v H hv ⟨s, ws, e, hw⟩
    obtain ⟨x, hxi, hat⟩ := hx.get hv
    refine body x v H _ _ (List.mem_of_getElem? hxi) s (Fl.keep (KT.of s) hat) (fun y H4 z hf s4 hy => ?_) fun H3 hf s3 => ?_
    · refine ⟨ws, s4 _ _ e, ?_, same_grow (s.trans s4) hD, _, upd_same, ?_⟩
      · rw [hw.len]
        exact Nat.lt_of_le_of_lt (fm_len f xs i) (small1000 hlen)
      · rw [fm_snoc hxi, hf]
        exact ((hw.keep (KT.of s4)).keep (KT.lst (s4 _ _ e))).app (AllAt.one (Fl.keep (KT.lst (s4 _ _ e)) hy))
    · refine ⟨s.trans s3, ws, s3 _ _ e, ?_⟩
      rw [fm_snoc hxi, hf]
      simp only [List.append_nil]
      exact hw.keep (KT.of s3)
  · rintro H ⟨s, ws, e, hw⟩
    refine hd H ws s e ?_
    have h1 := hx.len
    rw [h1, List.take_length] at hw
    exact hw
theorem lc_fmT {K : PySem.W.Frag} {a : Addr} {vs : List V} {xs : List α} (f : α → Option β) {g : TG} {tt : TT} {te : TE} {own : List Nat} {σ : L2.St} {H1 : Hp} {D : Addr} {Qd : Hp → Prop} (src : H1 a = some (.tup vs)) (hx : AllAt H1 vs xs) (hlen : xs.length ≤ 1000) (hD : H1 D = none)
    (body : ∀ (x : α) (v : V) (H : Hp) (Qy : V → Hp → Prop) (Qn : Hp → Prop), x ∈ xs → Same H1 H → Fl.at_ H v x → (∀ y H4 z, f x = some z → Same H H4 → Fl.at_ H4 y z → Qy y H4) → (∀ H3, f x = none → Same H H3 → Qn H3) →
      g v (wipe σ own) H fun σ2 H2 => wipe σ2 own = wipe σ own ∧ tt σ2 H2 fun b H3 => if b = true then te σ2 H3 Qy else Qn H3)
    (hd : ∀ H ws, Same H1 H → H D = some (.lst ws) → AllAt H ws (xs.filterMap f) → Qd H) :
    Runs (Itt K a) g tt te own σ H1 D Qd := by
  refine lc_tup (K := K) (a := a) (xs := vs) (fun i H => Same H1 H ∧ ∃ ws, H D = some (.lst ws) ∧ AllAt H ws ((xs.take i).filterMap f)) ⟨same_up hD, [], upd_same, by simp [AllAt]⟩ (fun i H _ h => SqT.of (h.1 _ _ src)) ?_ ?_
  · rintro i v H hv ⟨s, ws, e, hw⟩
    obtain ⟨x, hxi, hat⟩ := hx.get hv
    refine body x v H _ _ (List.mem_of_getElem? hxi) s (Fl.keep (KT.of s) hat) (fun y H4 z hf s4 hy => ?_) fun H3 hf s3 => ?_
    · refine ⟨ws, s4 _ _ e, ?_, same_grow (s.trans s4) hD, _, upd_same, ?_⟩
      · rw [hw.len]
        exact Nat.lt_of_le_of_lt (fm_len f xs i) (small1000 hlen)
      · rw [fm_snoc hxi, hf]
        exact ((hw.keep (KT.of s4)).keep (KT.lst (s4 _ _ e))).app (AllAt.one (Fl.keep (KT.lst (s4 _ _ e)) hy))
    · refine ⟨s.trans s3, ws, s3 _ _ e, ?_⟩
      rw [fm_snoc hxi, hf]
      simp only [List.append_nil]
      exact hw.keep (KT.of s3)
  · rintro H ⟨s, ws, e, hw⟩
    refine hd H ws s e ?_
    have h1 := hx.len
    rw [h1, List.take_length] at hw
    exact hw
end

section
variable {P : Program} {w : World} {K : PySem.W.Frag} {mg : Str → Option Value} {base : Heap}
/-! ### names_of -/
def spNames : Sp := fun vs H Q _ => ∃ (v : V) (T : Tr), vs = [v] ∧ TrAt H v T ∧ T.ns.length ≤ 1000 ∧ NewL H T.names Q
theorem scNames : FnScope ["some_tree", "name", "weight"] ["some_tree"] (defScope sNames) := ⟨rfl, rfl, rfl, by decide +kernel, rfl, by decide +kernel, by decide +kernel⟩
theorem ok_names {f : Addr} {fd : FuncData} (F : Fun K "names_of" "names_of" sNames f fd) : FnOk P w K mg base CX0 1 f fd ["some_tree"] spNames := by
  refine F.ok scNames (fun vs H Q E h => ?_) (fun cdv A outer s H vs Q E hr h => ?_)
  · obtain ⟨v, T, rfl, _⟩ := h
    rfl
  · obtain ⟨v, T, rfl, ⟨p, a, b, rfl, hp, ⟨pn, ns, rfl, hn, hN⟩, _⟩, hl, q⟩ := h
    refine ⟨_, pss_one (ps_ret (pe_lc (own := [("name", 1), ("weight", 2)]) (g := gTup K 2 (gCons (gName 1) (gCons (gName 2) gNil))) rfl scNames.nd (pi_tup (pe_ix ix_tup (pv 0) pe_int (fun _ _ => rfl)))
      (blkOk_by (N := ["some_tree", "name", "weight"]) (sc := defScope sNames) (by decide +kernel))
      (fun _ _ _ _ _ => pg_tup (n := 2) rfl (pgs_cons (pg_name (i := 1) scNames.nd rfl (Or.inl rfl) (Or.inr rfl)) (pgs_cons (pg_name (i := 2) scNames.nd rfl (Or.inl rfl) (Or.inr rfl)) pgs_nil)))
      (fun _ _ _ _ _ => pts_nil) (fun _ _ _ _ _ => pv 1))), ?_⟩
    refine ⟨_, rfl, p, _, 0, _, rfl, rfl, SqT.of hp, atI_nat (j := 0) rfl, pn, rfl, ⟨_, SqT.of hn⟩, fun D hD => ?_⟩
    refine lc_fmT (K := K) (f := fun x : Str × Int => some x.1) hn hN hl hD (fun x v H2 Qy Qn _ s hat hy _ => ?_) fun H2 ws s e hw => ?_
    · obtain ⟨t, va, vb, rfl, ht, rfl, rfl⟩ := hat
      exact ⟨t, _, rfl, SqT.of ht, rfl, _, _, rfl, _, _, rfl, rfl, rfl, _, rfl, hy _ _ _ rfl (Same.refl _) rfl⟩
    · refine q _ D ws s hD e ?_
      rw [fm_map] at hw
      exact hw
end
end W2
-- text W3
set_option Elab.async false
set_option linter.all false
set_option maxRecDepth 100000
/-! neighbors, edge_of, length_between; own work -/
namespace W2
open PySem PySem.W L2 W0 W1 TM
theorem flat_len (x : Str) : ∀ es : List Ed, (es.flatMap (nb1 x)).length ≤ 2 * es.length
  | [] => by simp
  | e :: es => by
    have ih := flat_len x es
    have h : (nb1 x e).length ≤ 2 := by
      unfold nb1
      by_cases h1 : e.a = x <;> by_cases h2 : e.b = x <;> simp [h1, h2]
    rw [List.flatMap_cons, List.length_append, List.length_cons]
    omega
theorem flat_take {x : Str} {es : List Ed} {i : Nat} {e : Ed} (h : es[i]? = some e) : (es.take (i + 1)).flatMap (nb1 x) = (es.take i).flatMap (nb1 x) ++ nb1 x e := by
  rw [List.take_add_one, h, List.flatMap_append]
  simp
theorem flat_take_len (x : Str) (es : List Ed) (i : Nat) (h : es.length ≤ 100) : ((es.take i).flatMap (nb1 x)).length ≤ 200 := by
  have h1 := flat_len x (es.take i)
  have h2 : (es.take i).length ≤ es.length := by rw [List.length_take]; exact Nat.min_le_right _ _
  omega
theorem nbrs_len (es : List Ed) (x : Str) (h : es.length ≤ 100) : (nbrs es x).length ≤ 200 := by
  unfold nbrs
  rw [(srt2_perm _).length_eq]
  have := flat_len x es
  omega
section
variable {P : Program} {w : World} {K : PySem.W.Frag} {mg : Str → Option Value} {base : Heap}
/-! ### edge_of -/
def spEdgeOf : Sp := fun vs H Q _ => ∃ a b : Str, vs = [.str a, .str b] ∧ ∀ p, H p = none → Q (.ref p) (upd H p (.tup [.str (edgeOf a b).1, .str (edgeOf a b).2]))
theorem scEdgeOf : FnScope ["one", "other"] ["one", "other"] (defScope sEdgeOf) := ⟨rfl, rfl, rfl, by decide +kernel, rfl, by decide +kernel, by decide +kernel⟩
theorem ok_edgeOf {f : Addr} {fd : FuncData} (F : Fun K "edge_of" "edge_of" sEdgeOf f fd) (B : Bi mg) : FnOk P w K mg base CX0 1 f fd ["one", "other"] spEdgeOf := by
  refine F.ok scEdgeOf (fun vs H Q E h => ?_) (fun cdv A outer s H vs Q E hr h => ?_)
  · obtain ⟨a, b, rfl, _⟩ := h
    rfl
  · obtain ⟨a, b, rfl, q⟩ := h
    refine ⟨_, pss_one (ps_ret (pe_tup (pa_cons (pe_callB (cr_min2S rfl hr.units) (by rfl) B.min (by decide +kernel) (pa_cons (pv 0) (pa_cons (pv 1) pa_nil)))
      (pa_cons (pe_callB (cr_max2S rfl hr.units) (by rfl) B.max (by decide +kernel) (pa_cons (pv 0) (pa_cons (pv 1) pa_nil))) pa_nil)))), ?_⟩
    refine ⟨_, rfl, _, rfl, a, b, rfl, _, rfl, _, rfl, a, b, rfl, (by show 2 ≤ sizeLine; decide), fun p hp => ?_⟩
    exact q p hp
/-! ### neighbors -/
def spNbrs : Sp := fun vs H Q _ => ∃ (v : V) (T : Tr) (x : Str), vs = [v, .str x] ∧ TrAt H v T ∧ T.es.length ≤ 100 ∧ NewL H (nbrs T.es x) Q
theorem scNbrs : FnScope ["some_tree", "name", "found", "first", "second", "length"] ["some_tree", "name"] (defScope sNbrs) := ⟨rfl, rfl, rfl, by decide +kernel, rfl, by decide +kernel, by decide +kernel⟩
theorem ok_nbrs {f : Addr} {fd : FuncData} (F : Fun K "neighbors" "neighbors" sNbrs f fd) (B : Bi mg) : FnOk P w K mg base CX0 1 f fd ["some_tree", "name"] spNbrs := by
  refine F.ok scNbrs (fun vs H Q E h => ?_) (fun cdv A outer s H vs Q E hr h => ?_)
  · obtain ⟨v, T, x, rfl, _⟩ := h
    rfl
  · obtain ⟨v, T, x, rfl, ⟨p, a, b, rfl, hp, _, ⟨pe, es, rfl, he, hE⟩⟩, hl, q⟩ := h
    refine ⟨_, pss_cons (ps_set (i := 2) scNbrs.nd rfl (Or.inl rfl) (pe_lst pa_nil))
      (pss_cons (ps_for PassesOwn.never rfl (pi_tup (pe_ix ix_tup (pv 0) pe_int (fun _ _ => rfl)))
        (pg_tup rfl (pgs_cons (pg_name (i := 3) scNbrs.nd rfl (Or.inl rfl)) (pgs_cons (pg_name (i := 4) scNbrs.nd rfl (Or.inl rfl)) (pgs_cons (pg_name (i := 5) scNbrs.nd rfl (Or.inl rfl)) pgs_nil))))
        (pss_cons (ps_if (pt_cmpR op_eq (pv 3) (pv 1) (nomark _))
          (pss_one (ps_expr (pe_bm PySem.F.plainAttrs_list PySem.F.slot_list_append PySem.F.type_list_append mt_append (pv 2) (pa_cons (pe_tup (pa_cons (pv 4) (pa_cons (pv 5) pa_nil))) pa_nil)))) pss_nil)
        (pss_one (ps_if (pt_cmpR op_eq (pv 4) (pv 1) (nomark _))
          (pss_one (ps_expr (pe_bm PySem.F.plainAttrs_list PySem.F.slot_list_append PySem.F.type_list_append mt_append (pv 2) (pa_cons (pe_tup (pa_cons (pv 3) (pa_cons (pv 5) pa_nil))) pa_nil)))) pss_nil))))
      (pss_one (ps_ret (pe_callB (cr_sortF (Str × Int) hr.units) (by rfl) B.sorted (by decide +kernel) (pa_cons (pv 2) pa_nil))))), ?_⟩
    refine ⟨Nat.zero_le _, fun l hl0 => ?_⟩
    have n1 : ∀ {H' : Hp}, Same H H' → H' p = some (.tup [_, .ref pe]) := fun s => s _ _ hp
    refine ⟨_, rfl, p, _, 1 - 1 + 1, _, rfl, rfl, SqT.of (same_up hl0 _ _ hp), atI_nat (j := 1) rfl, pe, rfl, ⟨_, SqT.of (same_up hl0 _ _ he)⟩,
      for_tup (K := K) (a := pe) (xs := es) (fun i σ H' => ∃ f3 f4 f5 : Option V, σ = [some (.ref p), some (.str x), some (.ref l), f3, f4, f5] ∧ Same H H' ∧ ∃ ws, H' l = some (.lst ws) ∧ AllAt H' ws ((T.es.take i).flatMap (nb1 x)))
        ⟨none, none, none, rfl, same_up hl0, [], upd_same, by simp [AllAt]⟩ (fun i σ H' _ h => ?_) ?_ ?_⟩
    · obtain ⟨_, _, _, _, s, _⟩ := h
      exact SqT.of (s _ _ he)
    · rintro i y σ H' hi ⟨f3, f4, f5, rfl, s, ws, hw, hW⟩
      obtain ⟨e, hei, t, va, vb, vc, rfl, ht, rfl, rfl, rfl⟩ := hE.get hi
      have hlen := flat_take_len x T.es i hl
      have hln : ws.length ≤ 200 := by rw [hW.len]; exact hlen
      refine ⟨t, _, rfl, SqT.of (s _ _ ht), rfl, _, _, rfl, _, _, rfl, _, _, rfl, rfl, ?_⟩
      refine ⟨_, rfl, _, rfl, rfl, _, rfl, ?_⟩
      have fin : ∀ (H2 : Hp) (ws2 : List V), Same H H2 → H2 l = some (.lst ws2) → ws2.length ≤ 201 → AllAt H2 ws2 ((T.es.take i).flatMap (nb1 x) ++ (if e.a = x then [(e.b, e.c)] else [])) →
          (tIfS (tTest (tOp rEq (tVar 4) (tVar 1))) (tDrop (tBM K "list" rAppend (tVar 2) (tCons (tTup (tCons (tVar 3) (tCons (tVar 5) tNil))) tNil))) tNext) { nx := fun σ H' => ∃ f3 f4 f5 : Option V, σ = [some (.ref p), some (.str x), some (.ref l), f3, f4, f5] ∧ Same H H' ∧ ∃ ws, H' l = some (.lst ws) ∧ AllAt H' ws ((T.es.take (i + 1)).flatMap (nb1 x)), rt := Q }
            [some (.ref p), some (.str x), some (.ref l), some (.str e.a), some (.str e.b), some (.int e.c)] H2 := by
        intro H2 ws2 s2 hw2 hn2 hW2
        refine ⟨_, rfl, _, rfl, rfl, _, rfl, ite2 (fun h => ?_) (fun h => ?_)⟩
        · have h' : e.b = x := V.str.inj (of_decide_eq_true h)
          refine ⟨_, rfl, .inl ⟨rfl, _, SqL.of hw2⟩, _, rfl, _, rfl, (by show 2 ≤ sizeLine; decide), fun t2 ht2 => ?_⟩
          have hlt : l ≠ t2 := ne_of_none hw2 ht2
          refine ⟨l, _, _, rfl, rfl, (by rw [upd_ne hlt]; exact hw2), Nat.lt_of_le_of_lt hn2 (by decide), _, _, _, rfl, ?_, _, upd_same, ?_⟩
          · exact same_grow (s2.trans (same_up ht2)) hl0
          · rw [flat_take hei]
            unfold nb1
            rw [if_pos h', ← List.append_assoc]
            have k2 : KT H2 (upd (upd H2 t2 (.tup [.str e.a, .int e.c])) l (.lst (ws2 ++ [.ref t2]))) := (KT.new ht2).trans (KT.lst (by rw [upd_ne hlt]; exact hw2))
            exact (hW2.keep k2).app (AllAt.one ⟨t2, _, _, rfl, by rw [upd_ne hlt.symm, upd_same], rfl, rfl⟩)
        · have h' : ¬ e.b = x := fun z => h (decide_eq_true (by rw [z]))
          refine ⟨_, _, _, rfl, s2, ws2, hw2, ?_⟩
          rw [flat_take hei]
          unfold nb1
          rw [if_neg h', List.append_nil]
          exact hW2
      refine ite2 (fun h => ?_) (fun h => ?_)
      · have h' : e.a = x := V.str.inj (of_decide_eq_true h)
        refine ⟨_, rfl, .inl ⟨rfl, _, SqL.of hw⟩, _, rfl, _, rfl, (by show 2 ≤ sizeLine; decide), fun t2 ht2 => ?_⟩
        have hlt : l ≠ t2 := ne_of_none hw ht2
        refine ⟨l, _, _, rfl, rfl, (by rw [upd_ne hlt]; exact hw), Nat.lt_of_le_of_lt hln (by decide), ?_⟩
        refine fin _ _ (same_grow (s.trans (same_up ht2)) hl0) upd_same (by rw [List.length_append, List.length_singleton]; omega) ?_
        rw [if_pos h']
        have k2 : KT H' (upd (upd H' t2 (.tup [.str e.b, .int e.c])) l (.lst (ws ++ [.ref t2]))) := (KT.new ht2).trans (KT.lst (by rw [upd_ne hlt]; exact hw))
        exact (hW.keep k2).app (AllAt.one ⟨t2, _, _, rfl, by rw [upd_ne hlt.symm, upd_same], rfl, rfl⟩)
      · have h' : ¬ e.a = x := fun z => h (decide_eq_true (by rw [z]))
        refine fin _ _ s hw (by omega) ?_
        rw [if_neg h', List.append_nil]
        exact hW
    · rintro σ H' ⟨f3, f4, f5, rfl, s, ws, hw, hW⟩
      have hlE := hE.len
      rw [hlE, List.take_length] at hW
      have hfl := flat_len x T.es
      refine ⟨_, rfl, _, _, rfl, ⟨l, ws, rfl, hw, hW⟩, (by show max 0 0 + 1 ≤ 30; decide), by omega, sortOk_pair, fun D ws2 hD hW2 => ?_⟩
      exact q _ D ws2 (s.trans (same_up hD)) (Same.free s hD) upd_same (hW2.keep (KT.new hD))
end
end W2
-- text W4
set_option Elab.async false
set_option linter.all false
set_option maxRecDepth 100000
/-! path; own work -/
namespace W2
open PySem PySem.W L2 W0 W1 TM
/-- the dict of paths: names to new lists, none of them the waiting list -/
def WaysAt (H0 H : Hp) (wl : Addr) : List (Key × V) → Ways → Prop
  | [], [] => True
  | kv :: kvs, p :: ws => (kv.1 = .inr p.1 ∧ ∃ q, kv.2 = .ref q ∧ q ≠ wl ∧ H0 q = none ∧ H q = some (.lst (p.2.map V.str))) ∧ WaysAt H0 H wl kvs ws
  | _, _ => False
theorem WaysAt.keep {H0 H H' : Hp} {wl : Addr} (k : ∀ q xs, q ≠ wl → H q = some (.lst xs) → H' q = some (.lst xs)) : ∀ {kvs : List (Key × V)} {ws : Ways}, WaysAt H0 H wl kvs ws → WaysAt H0 H' wl kvs ws
  | [], [], _ => True.intro
  | _ :: _, _ :: _, ⟨⟨e, q, e2, n, n0, h⟩, t⟩ => ⟨⟨e, q, e2, n, n0, k _ _ n h⟩, WaysAt.keep k t⟩
  | [], _ :: _, h => h.elim
  | _ :: _, [], h => h.elim
theorem WaysAt.len {H0 H : Hp} {wl : Addr} : ∀ {kvs : List (Key × V)} {ws : Ways}, WaysAt H0 H wl kvs ws → kvs.length = ws.length
  | [], [], _ => rfl
  | _ :: _, _ :: _, ⟨_, t⟩ => by rw [List.length_cons, List.length_cons, WaysAt.len t]
  | [], _ :: _, h => h.elim
  | _ :: _, [], h => h.elim
theorem WaysAt.snoc {H0 H : Hp} {wl q : Addr} {x : Str} {l : List Str} (n : q ≠ wl) (n0 : H0 q = none) (h : H q = some (.lst (l.map V.str))) : ∀ {kvs : List (Key × V)} {ws : Ways}, WaysAt H0 H wl kvs ws → WaysAt H0 H wl (kvs ++ [(.inr x, .ref q)]) (ws ++ [(x, l)])
  | [], [], _ => ⟨⟨rfl, q, rfl, n, n0, h⟩, True.intro⟩
  | _ :: _, _ :: _, ⟨a, t⟩ => ⟨a, WaysAt.snoc n n0 h t⟩
  | [], _ :: _, h => h.elim
  | _ :: _, [], h => h.elim
theorem look_cons (p : Str × List Str) (ws : Ways) (x : Str) : look (p :: ws) x = if p.1 = x then some p.2 else look ws x := by
  unfold look
  rw [List.find?_cons]
  by_cases h : p.1 = x
  · rw [if_pos h, decide_eq_true h]; rfl
  · rw [if_neg h, decide_eq_false h]
theorem WaysAt.val {H0 H : Hp} {wl : Addr} {x : Str} : ∀ {kvs : List (Key × V)} {ws : Ways}, WaysAt H0 H wl kvs ws →
    (look ws x = none ∧ valV kvs (Sum.inr x) = none) ∨ ∃ l q, look ws x = some l ∧ valV kvs (Sum.inr x) = some (.ref q) ∧ q ≠ wl ∧ H0 q = none ∧ H q = some (.lst (l.map V.str))
  | [], [], _ => .inl ⟨rfl, rfl⟩
  | kv :: kvs, p :: ws, ⟨⟨e, q, e2, n, n0, h⟩, t⟩ => by
    rw [look_cons]
    by_cases hx : p.1 = x
    · right
      rw [if_pos hx]
      exact ⟨p.2, q, rfl, by rw [valV_pos (by rw [e, hx]), e2], n, n0, h⟩
    · rw [if_neg hx, valV_neg (by rw [e]; exact fun z => hx (Sum.inr.inj z))]
      exact WaysAt.val t
  | [], _ :: _, h => h.elim
  | _ :: _, [], h => h.elim
theorem bstep_len (w : List Str) (st : Ways × List Str) (o : Str) : (bstep w st o).1.length ≤ st.1.length + 1 ∧ (bstep w st o).2.length ≤ st.2.length + 1 := by
  unfold bstep
  by_cases h : (look st.1 o).isSome = true
  · rw [if_pos h]; exact ⟨Nat.le_succ _, Nat.le_succ _⟩
  · rw [if_neg h]; simp
theorem bfold_len (w : List Str) : ∀ (os : List Str) (st : Ways × List Str), (os.foldl (bstep w) st).1.length ≤ st.1.length + os.length ∧ (os.foldl (bstep w) st).2.length ≤ st.2.length + os.length
  | [], st => ⟨Nat.le_refl _, Nat.le_refl _⟩
  | o :: os, st => by
    have h1 := bfold_len w os (bstep w st o)
    have h2 := bstep_len w st o
    rw [List.foldl_cons, List.length_cons]
    omega
theorem bfold_look {w : List Str} {x : Str} {l : List Str} (os : List Str) (st : Ways × List Str) (h : look st.1 x = some l) : look (os.foldl (bstep w) st).1 x = some l := by
  obtain ⟨vs, e, _⟩ := bfold_keys (w := w) os st
  rw [e]
  exact look_app h
theorem fold_take {α β : Type} (f : β → α → β) (b : β) {os : List α} {i : Nat} {o : α} (h : os[i]? = some o) : (os.take (i + 1)).foldl f b = f ((os.take i).foldl f b) o := by
  rw [List.take_add_one, h, List.foldl_append]
  rfl
section
variable {P : Program} {w : World} {K : PySem.W.Frag} {mg : Str → Option Value} {base : Heap}
def spPath : Sp := fun vs H Q _ => ∃ (v : V) (T : Tr) (a b : Str) (res : List Str), vs = [v, .str a, .str b] ∧ TrAt H v T ∧ T.es.length ≤ 100 ∧ pthO T.es a b = some res ∧ NewL H res Q
theorem scPath : FnScope ["some_tree", "first", "second", "ways", "waiting", "name", "other", "_"] ["some_tree", "first", "second"] (defScope sPath) := ⟨rfl, rfl, rfl, by decide +kernel, rfl, by decide +kernel, by decide +kernel⟩
theorem ok_path {f fN : Addr} {fd fdN : FuncData} (F : Fun K "path" "path" sPath f fd) (B : Bi mg) (FN : Fun K "neighbors" "neighbors" sNbrs fN fdN) (bN : Binds K fdN ["some_tree", "name"] []) (gN : mg "neighbors" = some (.ref fN)) :
    FnOk P w K mg base CX0 2 f fd ["some_tree", "first", "second"] spPath := by
  have GN : FnOk P w K mg base CX0 1 fN fdN ["some_tree", "name"] spNbrs := ok_nbrs FN B
  refine F.ok scPath (fun vs H Q E h => ?_) (fun cdv A outer s H vs Q E hr h => ?_)
  · obtain ⟨v, T, a, b, res, rfl, _⟩ := h
    rfl
  · obtain ⟨v, T, a, b, res, rfl, hT, hl, hres, q⟩ := h
    have hu := hu_of hr
    refine ⟨_, pss_cons (ps_set (i := 3) scPath.nd rfl (Or.inl rfl) (pe_disp (pps_cons (pv 1) (pe_lst (pa_cons (pv 1) pa_nil)) pps_nil) (by rfl) (by rfl) (fun z => by cases z) (by decide)))
      (pss_cons (ps_set (i := 4) scPath.nd rfl (Or.inl rfl) (pe_lst (pa_cons (pv 1) pa_nil)))
      (pss_cons (ps_while PassesOwn.never (pt_cmp (pc_dnotin hu (pv 2) (pv 3)))
        (pss_cons (ps_set (i := 5) scPath.nd rfl (Or.inl rfl) (pe_bm PySem.F.plainAttrs_list PySem.F.slot_list_pop PySem.F.type_list_pop mt_popAt (pv 4) (pa_cons pe_int pa_nil)))
        (pss_one (ps_for PassesOwn.never rfl (pi_list (pe_call GN hr (by rfl) gN FN.kp bN .nil pass0 (pa_cons (pv 0) (pa_cons (pv 5) pa_nil))))
          (pg_tup rfl (pgs_cons (pg_name (i := 6) scPath.nd rfl (Or.inl rfl)) (pgs_cons (pg_name (i := 7) scPath.nd rfl (Or.inl rfl)) pgs_nil)))
          (pss_one (ps_if (pt_cmp (pc_dnotin hu (pv 6) (pv 3)))
            (pss_cons (ps_dput hu (pv 3) (pv 6) (pe_op op_cat (pe_dget hu (pv 3) (pv 5) (fun _ _ => rfl)) (pe_lst (pa_cons (pv 6) pa_nil))) rfl)
            (pss_one (ps_expr (pe_bm PySem.F.plainAttrs_list PySem.F.slot_list_append PySem.F.type_list_append mt_append (pv 4) (pa_cons (pv 6) pa_nil))))) pss_nil))))))
      (pss_one (ps_ret (pe_dget hu (pv 3) (pv 2) (fun _ _ => rfl)))))), ?_⟩
    -- ways = {first: [first]}
    intro d hd0
    refine ⟨_, rfl, _, rfl, (by show 1 ≤ sizeLine; decide), fun l1 hl1 => ⟨?_, [(Sum.inr a, .ref l1)], rfl, (by show 1 ≤ 15; decide), ?_⟩⟩
    · rw [upd_ne (ne_of_none upd_same hl1)]
      exact upd_same
    have dl1 : d ≠ l1 := ne_of_none (upd_same (H := H) (o := .dK [])) hl1
    -- waiting = [first]
    refine ⟨_, rfl, (by show 1 ≤ sizeLine; decide), fun wl hwl => ?_⟩
    have s0 : Same H (upd H d (.dK [])) := same_up hd0
    have s1 : Same H (upd (upd H d (.dK [])) l1 (.lst [.str a])) := s0.trans (same_up hl1)
    have s2 : Same H (upd (upd (upd H d (.dK [])) l1 (.lst [.str a])) d (.dK (mergeK [] [(Sum.inr a, .ref l1)]))) := same_grow s1 hd0
    have hd1 : (upd (upd (upd H d (.dK [])) l1 (.lst [.str a])) d (.dK (mergeK [] [(Sum.inr a, .ref l1)]))) d = some (.dK [(Sum.inr a, .ref l1)]) := upd_same
    generalize hHa : upd (upd (upd H d (.dK [])) l1 (.lst [.str a])) d (.dK (mergeK [] [(Sum.inr a, .ref l1)])) = Ha at hwl s2 hd1
    have hl1a : Ha l1 = some (.lst [.str a]) := by rw [← hHa, upd_ne dl1.symm, upd_same]
    have hwl0 : H wl = none := Same.free s2 hwl
    have hl10 : H l1 = none := Same.free s0 hl1
    have dwl : d ≠ wl := ne_of_none hd1 hwl
    have l1wl : l1 ≠ wl := ne_of_none hl1a hwl
    refine ⟨fun m σ H' => ∃ (ws : Ways) (qq : List Str) (kvs : List (Key × V)) (f5 f6 f7 : Option V), σ = [some v, some (.str a), some (.str b), some (.ref d), some (.ref wl), f5, f6, f7] ∧ Same H H' ∧ H' d = some (.dK kvs) ∧ WaysAt H H' wl kvs ws ∧ H' wl = some (.lst (qq.map V.str)) ∧ bfs T.es b m ws qq = some res,
      ⟨14, [(a, [a])], [a], [(Sum.inr a, .ref l1)], none, none, none, rfl, s2.trans (same_up hwl), by rw [upd_ne dwl]; exact hd1, ⟨⟨rfl, l1, rfl, l1wl, hl10, by rw [upd_ne l1wl]; exact hl1a⟩, True.intro⟩, upd_same, hres⟩, ?_⟩
    rintro m σ H' ⟨ws, qq, kvs, f5, f6, f7, rfl, sH, hd, hW, hw, hb⟩
    cases m with
    | zero => exact absurd hb (by simp [bfs])
    | succ n =>
    unfold bfs at hb
    refine ⟨_, rfl, _, rfl, d, _, rfl, DGet.k (k := Sum.inr b) hd, _, rfl, ?_⟩
    rcases hW.val (x := b) with ⟨e1, e2⟩ | ⟨l, qa, e1, e2, hqw, hq0, hqa⟩
    · rw [e2]
      refine iteT ⟨fun σ H' => ∃ (ws : Ways) (qq : List Str) (kvs : List (Key × V)) (f5 f6 f7 : Option V), σ = [some v, some (.str a), some (.str b), some (.ref d), some (.ref wl), f5, f6, f7] ∧ Same H H' ∧ H' d = some (.dK kvs) ∧ WaysAt H H' wl kvs ws ∧ H' wl = some (.lst (qq.map V.str)) ∧ bfs T.es b n ws qq = some res,
        fun σ' H' h => ⟨n, Nat.lt_succ_self n, h⟩, ?_⟩
      rw [e1] at hb
      cases qq with
      | nil => exact absurd hb (by simp)
      | cons x q' =>
      cases e3 : look ws x with
      | none => simp [e3] at hb
      | some wp =>
      simp only [e3] at hb
      by_cases hg : wp.length ≤ 100 ∧ ws.length ≤ 100 ∧ q'.length ≤ 100
      · rw [if_pos hg] at hb
        -- name = waiting.pop(0)
        refine ⟨_, rfl, .inl ⟨rfl, _, SqL.of hw⟩, wl, _, 0, 0, .str x, rfl, rfl, hw, by decide, by decide, ?_, rfl, ?_⟩
        · show seqIndex? 0 ((x :: q').map V.str).length = some 0
          unfold seqIndex?
          rw [List.length_map, List.length_cons]
          simp
        have kpop : ∀ q xs, q ≠ wl → H' q = some (.lst xs) → (upd H' wl (.lst (((x :: q').map V.str).eraseIdx 0))) q = some (.lst xs) := fun q xs hq e => by rw [upd_ne hq]; exact e
        have hwb : (upd H' wl (.lst (((x :: q').map V.str).eraseIdx 0))) wl = some (.lst (q'.map V.str)) := upd_same
        have hdb : (upd H' wl (.lst (((x :: q').map V.str).eraseIdx 0))) d = some (.dK kvs) := by rw [upd_ne dwl]; exact hd
        have sB : Same H (upd H' wl (.lst (((x :: q').map V.str).eraseIdx 0))) := same_grow sH hwl0
        have hWb := hW.keep kpop
        generalize hHb : upd H' wl (.lst (((x :: q').map V.str).eraseIdx 0)) = Hb at hwb hdb sB hWb
        -- for other, _ in neighbors(some_tree, name)
        refine ⟨_, rfl, _, rfl, v, T, x, rfl, hT.keep (KT.of sB), hl, fun H2 pn vs sN hpn hpe hA => ⟨pn, rfl, ⟨_, SqL.of hpe⟩, ?_⟩⟩
        have hpwl : pn ≠ wl := fun z => by rw [z, hwb] at hpn; cases hpn
        have hpd : pn ≠ d := fun z => by rw [z, hdb] at hpn; cases hpn
        generalize hos : (nbrs T.es x).map (·.1) = os at hb
        have hvl : vs.length = os.length := by rw [hA.len, ← hos, List.length_map]
        refine for_list (K := K) (a := pn) (xs := vs) (fun i σ H3 => ∃ (kv3 : List (Key × V)) (f6 f7 : Option V), σ = [some v, some (.str a), some (.str b), some (.ref d), some (.ref wl), some (.str x), f6, f7] ∧ Same H H3 ∧ H3 pn = some (.lst vs) ∧ KT H2 H3 ∧ H3 d = some (.dK kv3) ∧
            WaysAt H H3 wl kv3 ((os.take i).foldl (bstep wp) (ws, q')).1 ∧ H3 wl = some (.lst ((((os.take i).foldl (bstep wp) (ws, q')).2).map V.str)))
          ⟨kvs, f6, f7, rfl, sB.trans sN, hpe, KT.refl _, sN _ _ hdb, hWb.keep (fun q xs _ e => sN _ _ e), sN _ _ hwb⟩ (fun i σ H3 _ h => ?_) ?_ ?_
        · obtain ⟨_, _, _, _, _, h, _⟩ := h
          exact SqL.of h
        · rintro i y σ H3 hi ⟨kv3, f6, f7, rfl, s3, hp3, k3, hd3, hW3, hw3⟩
          obtain ⟨e, hei, t, va, vb, rfl, ht, rfl, rfl⟩ := (hA.keep k3).get hi
          have hoi : os[i]? = some e.1 := by rw [← hos, List.getElem?_map, hei]; rfl
          have hil : i < os.length := (List.getElem?_eq_some_iff.mp hoi).1
          have hol : os.length ≤ 200 := by rw [← hos, List.length_map]; exact nbrs_len _ _ hl
          refine ⟨t, _, rfl, SqT.of ht, rfl, _, _, rfl, _, _, rfl, rfl, ?_⟩
          refine ⟨_, rfl, _, rfl, d, _, rfl, DGet.k (k := Sum.inr e.1) hd3, _, rfl, ?_⟩
          have hst := bfold_len wp (os.take i) (ws, q')
          dsimp only at hst
          have htl : (os.take i).length ≤ i := by rw [List.length_take]; exact Nat.min_le_left _ _
          have hlk : look ((os.take i).foldl (bstep wp) (ws, q')).1 x = some wp := bfold_look _ _ e3
          rw [fold_take (bstep wp) (ws, q') hoi]
          generalize hst2 : (os.take i).foldl (bstep wp) (ws, q') = st at hW3 hw3 hst hlk
          rcases hW3.val (x := e.1) with ⟨z1, z2⟩ | ⟨l, qa, z1, z2, hqw, hq0, hqa⟩
          · have hbs : bstep wp st e.1 = (st.1 ++ [(e.1, wp ++ [e.1])], st.2 ++ [e.1]) := by
              unfold bstep
              rw [z1]
              rfl
            rw [z2, hbs]
            refine iteT ?_
            -- ways[other] = ways[name] + [other]
            rcases hW3.val (x := x) with ⟨y1, y2⟩ | ⟨l3, qx, y1, y2, hxw, hx0, hxa⟩
            · rw [hlk] at y1; cases y1
            rw [hlk] at y1
            obtain rfl := Option.some.inj y1
            refine ⟨_, rfl, _, rfl, d, _, rfl, (by rw [← y2]; exact DGet.k (k := Sum.inr x) hd3), _, rfl, (by show 1 ≤ sizeLine; decide), fun l4 hl4 => ?_⟩
            refine ⟨qx, l4, _, _, rfl, rfl, (by rw [upd_ne (ne_of_none hxa hl4)]; exact hxa), upd_same, ?_, fun p5 hp5 => ?_⟩
            · rw [List.length_map]
              exact sz1000 (by show wp.length + 1 ≤ 1000; omega)
            have dl4 : d ≠ l4 := ne_of_none hd3 hl4
            have wl4 : wl ≠ l4 := ne_of_none hw3 hl4
            have pl4 : pn ≠ l4 := ne_of_none hp3 hl4
            have hp50 : H3 p5 = none := by
              have z : p5 ≠ l4 := fun z => by rw [z, upd_same] at hp5; cases hp5
              rw [upd_ne z] at hp5
              exact hp5
            have dp5 : d ≠ p5 := ne_of_none hd3 hp50
            have wp5 : wl ≠ p5 := ne_of_none hw3 hp50
            have pp5 : pn ≠ p5 := ne_of_none hp3 hp50
            have l4p5 : l4 ≠ p5 := fun z => by rw [← z, upd_same] at hp5; cases hp5
            have hkl : kv3.length < sizeLine := by
              rw [hW3.len]
              exact small1000 (by omega)
            refine ⟨_, rfl, _, rfl, d, _, rfl, DPut.k (k := Sum.inr e.1) (by rw [upd_ne dp5, upd_ne dl4]; exact hd3) hkl, ?_⟩
            rw [putK_new _ z2]
            -- waiting.append(other)
            have hw5 : (upd (upd (upd H3 l4 (.lst [.str e.1])) p5 (.lst (wp.map V.str ++ [.str e.1]))) d (.dK (kv3 ++ [(Sum.inr e.1, .ref p5)]))) wl = some (.lst (st.2.map V.str)) := by
              rw [upd_ne dwl.symm, upd_ne wp5, upd_ne wl4]
              exact hw3
            refine ⟨_, rfl, .inl ⟨rfl, _, SqL.of hw5⟩, _, rfl, wl, _, _, rfl, rfl, hw5, ?_, ?_⟩
            · rw [List.length_map]
              exact small1000 (by omega)
            refine ⟨kv3 ++ [(Sum.inr e.1, .ref p5)], _, _, rfl, ?_, ?_, ?_, ?_, ?_, ?_⟩
            · exact same_grow (same_grow (same_grow (same_grow s3 (Same.free s3 hl4)) (Same.free s3 hp50)) hd0) hwl0
            · rw [upd_ne hpwl, upd_ne hpd, upd_ne pp5, upd_ne pl4]
              exact hp3
            · exact k3.trans ((((KT.new hl4).trans (KT.new hp5)).trans (KT.dK (by rw [upd_ne dp5, upd_ne dl4]; exact hd3))).trans (KT.lst hw5))
            · rw [upd_ne dwl]
              exact upd_same
            · have kk : ∀ q xs, q ≠ wl → H3 q = some (.lst xs) → (upd (upd (upd (upd H3 l4 (.lst [.str e.1])) p5 (.lst (wp.map V.str ++ [.str e.1]))) d (.dK (kv3 ++ [(Sum.inr e.1, .ref p5)]))) wl (.lst (st.2.map V.str ++ [.str e.1]))) q = some (.lst xs) := fun q xs hq eq => by
                rw [upd_ne hq, upd_ne (ne_of eq hd3 (by intro z; cases z)), upd_ne (ne_of_none eq hp50), upd_ne (ne_of_none eq hl4)]
                exact eq
              refine (hW3.keep kk).snoc wp5.symm (Same.free s3 hp50) ?_
              rw [upd_ne wp5.symm, upd_ne dp5.symm, upd_same, List.map_append]
              rfl
            · rw [upd_same, List.map_append]
              rfl
          · have hbs : bstep wp st e.1 = st := by
              unfold bstep
              rw [z1]
              rfl
            rw [z2, hbs]
            refine iteF ?_
            exact ⟨kv3, _, _, rfl, s3, hp3, k3, hd3, hW3, hw3⟩
        · rintro σ H3 ⟨kv3, f6, f7, rfl, s3, hp3, k3, hd3, hW3, hw3⟩
          rw [hvl, List.take_length] at hW3 hw3
          exact ⟨_, _, kv3, _, f6, f7, rfl, s3, hd3, hW3, hw3, hb⟩
      · rw [if_neg hg] at hb
        cases hb
    · rw [e2]
      rw [e1] at hb
      obtain rfl := Option.some.inj hb
      refine iteF ?_
      refine ⟨_, rfl, _, rfl, d, _, rfl, (by rw [← e2]; exact DGet.k (k := Sum.inr b) hd), ?_⟩
      exact q H' qa _ sH hq0 hqa (AllAt.of_strs _)
end
end W2
-- text W5
set_option Elab.async false
set_option linter.all false
set_option maxRecDepth 100000
/-! length_between, distance, sides, side_beyond; own work -/
namespace TM
theorem SP.adj {α : Type} [DecidableEq α] {R : α → α → Prop} {a b : α} {l : List α} (h : SP R a b l) : ∀ {k : Nat} {x y : α}, l[k]? = some x → l[k + 1]? = some y → R x y := by
  induction h with
  | one a => intro k x y h1 h2; simp at h2
  | @cons a b c l r h2 n ih =>
    intro k x y h3 h4
    cases k with
    | zero =>
      obtain ⟨t, e⟩ := h2.head
      subst e
      have e1 : a = x := Option.some.inj h3
      have e2 : b = y := Option.some.inj h4
      rw [← e1, ← e2]
      exact r
    | succ k => exact ih (k := k) h3 h4
theorem segs_eq (es : List Ed) (d : PySem.Str) : ∀ l : List PySem.Str, segs es l = (List.range (l.length - 1)).map fun k => lenb es (l.getD k d) (l.getD (k + 1) d)
  | [] => rfl
  | [x] => rfl
  | x :: y :: l => by
    have ih := segs_eq es d (y :: l)
    have e : (x :: y :: l).length - 1 = ((y :: l).length - 1) + 1 := by simp
    rw [e, List.range_succ_eq_map, List.map_cons, List.map_map]
    show lenb es x y :: segs es (y :: l) = _
    rw [ih]
    rfl
end TM
namespace W2
open PySem PySem.W L2 W0 W1 TM
section
variable {β : Type} [DecidableEq β] [Datum β] [Fl β]
/-- a comprehension over range(n) -/
theorem lc_mapR {n : Nat} (f : Nat → β) {g : TG} {tt : TT} {te : TE} {own : List Nat} {σ : L2.St} {H1 : Hp} {D : Addr} {Qd : Hp → Prop} (hlen : n ≤ 1000) (hD : H1 D = none)
    (body : ∀ (i : Nat) (H : Hp) (Qy : V → Hp → Prop) (Qn : Hp → Prop), i < n → Same H1 H → (∀ y H4, Same H H4 → Fl.at_ H4 y (f i) → Qy y H4) →
      g (.int (0 + i)) (wipe σ own) H fun σ2 H2 => wipe σ2 own = wipe σ own ∧ tt σ2 H2 fun b H3 => if b = true then te σ2 H3 Qy else Qn H3)
    (hd : ∀ H ws, Same H1 H → H D = some (.lst ws) → AllAt H ws ((List.range n).map f) → Qd H) :
    Runs (Itr 0 n) g tt te own σ H1 D Qd := by
  refine lc_range (lo := 0) (n := n) (fun i H => Same H1 H ∧ ∃ ws, H D = some (.lst ws) ∧ AllAt H ws ((List.range i).map f)) ⟨same_up hD, [], upd_same, by simp [AllAt]⟩ ?_ ?_
  · rintro i H hi ⟨s, ws, e, hw⟩
    refine body i H _ _ hi s fun y H4 s4 hy => ?_
    refine ⟨ws, s4 _ _ e, ?_, same_grow (s.trans s4) hD, _, upd_same, ?_⟩
    · rw [hw.len, List.length_map, List.length_range]
      exact small1000 (by omega)
    · rw [List.range_succ, List.map_append]
      exact ((hw.keep (KT.of s4)).keep (KT.lst (s4 _ _ e))).app (AllAt.one (Fl.keep (KT.lst (s4 _ _ e)) hy))
  · rintro H ⟨s, ws, e, hw⟩
    exact hd H ws s e hw
end
section
variable {P : Program} {w : World} {K : PySem.W.Frag} {mg : Str → Option Value} {base : Heap}
/-! ### length_between -/
def spLenb : Sp := fun vs H Q _ => ∃ (v : V) (T : Tr) (x y : Str), vs = [v, .str x, .str y] ∧ TrAt H v T ∧ T.es.length ≤ 100 ∧ Adj T.es x y ∧ ∀ H', Same H H' → Q (.int (lenb T.es x y)) H'
theorem scLenb : FnScope ["some_tree", "first", "second", "name", "length"] ["some_tree", "first", "second"] (defScope sLenb) := ⟨rfl, rfl, rfl, by decide +kernel, rfl, by decide +kernel, by decide +kernel⟩
theorem ok_lenb {f fN : Addr} {fd fdN : FuncData} (F : Fun K "length_between" "length_between" sLenb f fd) (B : Bi mg) (FN : Fun K "neighbors" "neighbors" sNbrs fN fdN) (bN : Binds K fdN ["some_tree", "name"] []) (gN : mg "neighbors" = some (.ref fN)) :
    FnOk P w K mg base CX0 2 f fd ["some_tree", "first", "second"] spLenb := by
  have GN : FnOk P w K mg base CX0 1 fN fdN ["some_tree", "name"] spNbrs := ok_nbrs FN B
  refine F.ok scLenb (fun vs H Q E h => ?_) (fun cdv A outer s H vs Q E hr h => ?_)
  · obtain ⟨v, T, x, y, rfl, _⟩ := h
    rfl
  · obtain ⟨v, T, x, y, rfl, hT, hl, ha, q⟩ := h
    refine ⟨_, pss_one (ps_ret (pe_ix ix_list (pe_lc (own := [("name", 3), ("length", 4)]) (g := gTup K 2 (gCons (gName 3) (gCons (gName 4) gNil))) rfl scLenb.nd (pi_list (pe_call GN hr (by rfl) gN FN.kp bN .nil pass0 (pa_cons (pv 0) (pa_cons (pv 1) pa_nil))))
      (blkOk_by (N := ["some_tree", "first", "second", "name", "length"]) (sc := defScope sLenb) (by decide +kernel))
      (fun _ _ _ _ _ => pg_tup (n := 2) rfl (pgs_cons (pg_name (i := 3) scLenb.nd rfl (Or.inl rfl) (Or.inr rfl)) (pgs_cons (pg_name (i := 4) scLenb.nd rfl (Or.inl rfl) (Or.inr rfl)) pgs_nil)))
      (fun _ _ _ _ _ => pts_one (pt_cmpR op_eq (pv 3) (pv 2) (nomark _))) (fun _ _ _ _ _ => pv 4)) pe_int (fun _ _ => rfl))), ?_⟩
    refine ⟨v, rfl, _, rfl, v, T, x, rfl, hT, hl, fun H2 pn vs s2 hpn hpe hA => ⟨pn, rfl, ⟨_, SqL.of hpe⟩, fun D hD => ?_⟩⟩
    have hnl := nbrs_len T.es x hl
    refine lc_fmL (K := K) (f := fun p : Str × Int => if decide (p.1 = y) = true then some p.2 else none) (SqL.of hpe) hA (by omega) hD (fun p vp H3 Qy Qn _ s hat hy hn => ?_) fun H3 ws s e hw => ?_
    · obtain ⟨t, va, vb, rfl, ht, rfl, rfl⟩ := hat
      refine ⟨t, _, rfl, SqT.of ht, rfl, _, _, rfl, _, _, rfl, rfl, rfl, _, rfl, _, rfl, rfl, _, rfl, ?_⟩
      refine ite2 (fun h => ?_) (fun h => ?_)
      · have h' : p.1 = y := V.str.inj (of_decide_eq_true h)
        exact ⟨_, rfl, hy _ _ p.2 (by rw [if_pos (decide_eq_true h')]) (Same.refl _) rfl⟩
      · have h' : ¬ p.1 = y := fun z => h (decide_eq_true (by rw [z]))
        exact hn _ (by rw [decide_eq_false h']; rfl) (Same.refl _)
    · rw [fm_both] at hw
      have hne : (((nbrs T.es x).filter fun p => decide (p.1 = y)).map (·.2))[0]? = some (lenb T.es x y) := by
        obtain ⟨p, hp, hpy⟩ := nbrs_of_adj ha
        have hm : p ∈ (nbrs T.es x).filter (fun p => decide (p.1 = y)) := List.mem_filter.mpr ⟨hp, decide_eq_true hpy⟩
        unfold lenb
        cases z : (nbrs T.es x).filter (fun p => decide (p.1 = y)) with
        | nil => rw [z] at hm; simp at hm
        | cons a l => rfl
      obtain ⟨v0, hv0, rfl⟩ := hw.get' hne
      refine ⟨D, ws, 0, _, rfl, rfl, SqL.of e, atI_nat (j := 0) hv0, ?_⟩
      exact q _ (s2.trans s)
/-! ### distance -/
def spDist : Sp := fun vs H Q _ => ∃ (v : V) (T : Tr) (a b : Str), vs = [v, .str a, .str b] ∧ TrAt H v T ∧ GT T ∧ a ∈ T.names ∧ b ∈ T.names ∧ ∀ H', Same H H' → Q (.int (dist T.es a b)) H'
theorem scDist : FnScope ["some_tree", "first", "second", "way", "k"] ["some_tree", "first", "second"] (defScope sDist) := ⟨rfl, rfl, rfl, by decide +kernel, rfl, by decide +kernel, by decide +kernel⟩
theorem GT.el (G : GT T) : T.es.length ≤ 100 := Nat.le_trans G.elen (by decide)
theorem getD_of {l : List Str} {k : Nat} {x d : Str} (h : l[k]? = some x) : l.getD k d = x := by
  rw [List.getD_eq_getElem?_getD, h]
  rfl
theorem ok_dist {f fP fL : Addr} {fd fdP fdL : FuncData} (F : Fun K "distance" "distance" sDist f fd) (B : Bi mg)
    (FP : Fun K "path" "path" sPath fP fdP) (bP : Binds K fdP ["some_tree", "first", "second"] []) (gP : mg "path" = some (.ref fP)) (GP : FnOk P w K mg base CX0 2 fP fdP ["some_tree", "first", "second"] spPath)
    (FL : Fun K "length_between" "length_between" sLenb fL fdL) (bL : Binds K fdL ["some_tree", "first", "second"] []) (gL : mg "length_between" = some (.ref fL)) (GL : FnOk P w K mg base CX0 2 fL fdL ["some_tree", "first", "second"] spLenb) :
    FnOk P w K mg base CX0 3 f fd ["some_tree", "first", "second"] spDist := by
  refine F.ok scDist (fun vs H Q E h => ?_) (fun cdv A outer s H vs Q E hr h => ?_)
  · obtain ⟨v, T, a, b, rfl, _⟩ := h
    rfl
  · obtain ⟨v, T, a, b, rfl, hT, G, ha, hb, q⟩ := h
    obtain ⟨hO, hsp⟩ := G.pthO ha hb
    have hsh := G.short hsp ha
    refine ⟨_, pss_cons (ps_set (i := 3) scDist.nd rfl (Or.inr rfl) (pe_call GP hr (by rfl) gP FP.kp bP .nil pass0 (pa_cons (pv 0) (pa_cons (pv 1) (pa_cons (pv 2) pa_nil)))))
      (pss_one (ps_ret (pe_callB (cr_sum rfl) (by rfl) B.sum (by decide +kernel) (pa_cons (pe_lc (own := [("k", 4)]) (g := gName 4) (tt := tYes)
          (te := tCall spLenb [] E0 (tCons (tVar 0) (tCons (tOp (rIxL K) (tVar 3) (tVar 4)) (tCons (tOp (rIxL K) (tVar 3) (tOp (rI0 fun i j => .int (i + j)) (tVar 4) (tC (.int 1)))) tNil)))) rfl scDist.nd
        (pi_range1 (by rfl) B.range (pe_op op_sub (pe_callB call_len_seq (by rfl) B.len PySem.boot_len (pa_cons (pv 3) pa_nil)) pe_int |> fun h => pa_cons h pa_nil))
        (blkOk_by (N := ["some_tree", "first", "second", "way", "k"]) (sc := defScope sDist) (by decide +kernel))
        (fun _ _ _ _ _ => pg_name (i := 4) scDist.nd rfl (Or.inl rfl)) (fun _ _ _ _ _ => pts_nil)
        (fun _ _ _ _ _ => pe_call GL hr (by rfl) gL FL.kp bL .nil pass0 (pa_cons (pv 0) (pa_cons (pe_ix ix_list (pv 3) (pv 4) (fun _ _ => rfl)) (pa_cons (pe_ix ix_list (pv 3) (pe_op op_add (pv 4) pe_int) (fun _ _ => rfl)) pa_nil))))) pa_nil)))), ?_⟩
    refine ⟨v, rfl, _, rfl, _, rfl, v, T, a, b, _, rfl, hT, GT.el G, hO, fun H2 p vs s2 hp0 hp hA => ?_⟩
    obtain rfl := hA.strs
    have hln : ((pth T.es a b).map V.str).length = (pth T.es a b).length := List.length_map ..
    have hpos : 1 ≤ (pth T.es a b).length := List.length_pos_iff.mpr hsp.ne
    refine ⟨_, rfl, p, _, rfl, .inl (SqL.of hp), _, _, rfl, rfl, _, rfl, (by rw [hln]; omega), (by rw [hln]; omega), fun D hD => ?_⟩
    have hn : ((((pth T.es a b).map V.str).length : Int) - 1).toNat = (pth T.es a b).length - 1 := by rw [hln]; omega
    rw [hn]
    refine lc_mapR (n := (pth T.es a b).length - 1) (f := fun k => lenb T.es ((pth T.es a b).getD k Str.empty) ((pth T.es a b).getD (k + 1) Str.empty)) (by omega) hD (fun i H3 Qy Qn hi s3 hy => ?_) fun H3 ws s3 e hw => ?_
    · have h1 : (pth T.es a b)[i]? = some (pth T.es a b)[i] := List.getElem?_eq_getElem (by omega)
      have h2 : (pth T.es a b)[i + 1]? = some (pth T.es a b)[i + 1] := List.getElem?_eq_getElem (by omega)
      have e1 : ((pth T.es a b).map V.str)[i]? = some (.str (pth T.es a b)[i]) := by rw [List.getElem?_map, h1]; rfl
      have e2 : ((pth T.es a b).map V.str)[i + 1]? = some (.str (pth T.es a b)[i + 1]) := by rw [List.getElem?_map, h2]; rfl
      refine ⟨rfl, v, rfl, _, rfl, _, rfl, p, _, _, _, rfl, rfl, SqL.of (s3 _ _ hp), at_of (j := i) (by omega) e1, _, rfl, _, rfl, _, _, rfl, rfl, p, _, _, _, rfl, rfl, SqL.of (s3 _ _ hp), at_of (j := i + 1) (by omega) e2, ?_⟩
      refine ⟨v, T, _, _, rfl, hT.keep (KT.of (s2.trans s3)), GT.el G, hsp.adj h1 h2, fun H4 s4 => hy _ H4 s4 ?_⟩
      show V.int _ = V.int _
      rw [getD_of h1, getD_of h2]
    · obtain rfl := hw.ints
      refine ⟨D, _, rfl, SqL.of e, ?_⟩
      rw [← segs_eq]
      exact q _ (s2.trans s3)
end
end W2
-- text W6
set_option Elab.async false
set_option linter.all false
set_option maxRecDepth 100000
/-! sides, side_beyond, walk_length; own work -/
namespace W2
open PySem PySem.W L2 W0 W1 TM
section
variable {P : Program} {w : World} {K : PySem.W.Frag} {mg : Str → Option Value} {base : Heap}
/-! ### sides -/
def spSides : Sp := fun vs H Q _ => ∃ (v : V) (T : Tr) (a b : Str), vs = [v, .str a, .str b] ∧ TrAt H v T ∧ GT T ∧ a ∈ T.names ∧ b ∈ T.names ∧
  ∀ H' p p1 p2, Same H H' → H' p = some (.tup [.ref p1, .ref p2]) → H p1 = none → H p2 = none → H' p1 = some (.lst ((nearOf T a b).map V.str)) → H' p2 = some (.lst ((farOf T a b).map V.str)) → Q (.ref p) H'
theorem scSides : FnScope ["some_tree", "first", "second", "near", "name"] ["some_tree", "first", "second"] (defScope sSides) := ⟨rfl, rfl, rfl, by decide +kernel, rfl, by decide +kernel, by decide +kernel⟩
theorem names_len (T : Tr) (G : GT T) : T.names.length ≤ 12 := by
  have : T.names.length = T.ns.length := List.length_map ..
  have := G.len
  omega
theorem ok_sides {f fP fM : Addr} {fd fdP fdM : FuncData} (F : Fun K "sides" "sides" sSides f fd) (B : Bi mg)
    (FP : Fun K "path" "path" sPath fP fdP) (bP : Binds K fdP ["some_tree", "first", "second"] []) (gP : mg "path" = some (.ref fP)) (GP : FnOk P w K mg base CX0 2 fP fdP ["some_tree", "first", "second"] spPath)
    (FM : Fun K "names_of" "names_of" sNames fM fdM) (bM : Binds K fdM ["some_tree"] []) (gM : mg "names_of" = some (.ref fM)) :
    FnOk P w K mg base CX0 3 f fd ["some_tree", "first", "second"] spSides := by
  have GM : FnOk P w K mg base CX0 1 fM fdM ["some_tree"] spNames := ok_names FM
  refine F.ok scSides (fun vs H Q E h => ?_) (fun cdv A outer s H vs Q E hr h => ?_)
  · obtain ⟨v, T, a, b, rfl, _⟩ := h
    rfl
  · obtain ⟨v, T, a, b, rfl, hT, G, ha, hb, q⟩ := h
    have hr1 : Room 1 _ := hr.mono (by decide)
    have hu := hr.units
    refine ⟨_, pss_cons (ps_set (i := 3) scSides.nd rfl (Or.inr rfl) (pe_lc (own := [("name", 4)]) (g := gName 4) (tt := tTest (tOp (rNiF Str) (tVar 2) (tCall spPath [] E0 (tCons (tVar 0) (tCons (tVar 1) (tCons (tVar 4) tNil)))))) (te := tVar 4) rfl scSides.nd
        (pi_list (pe_call GM hr1 (by rfl) gM FM.kp bM .nil pass0 (pa_cons (pv 0) pa_nil)))
        (blkOk_by (N := ["some_tree", "first", "second", "near", "name"]) (sc := defScope sSides) (by decide +kernel))
        (fun _ _ _ _ _ => pg_name (i := 4) scSides.nd rfl (Or.inl rfl))
        (fun _ _ _ _ _ => pts_one (pt_cmpR (op_notInF Str hu) (pv 2) (pe_call GP hr (by rfl) gP FP.kp bP .nil pass0 (pa_cons (pv 0) (pa_cons (pv 1) (pa_cons (pv 4) pa_nil)))) rfl))
        (fun _ _ _ _ _ => pv 4)))
      (pss_one (ps_ret (pe_tup (pa_cons (pv 3) (pa_cons (pe_lc (own := [("name", 4)]) (g := gName 4) (tt := tTest (tOp (rNiF Str) (tVar 4) (tVar 3))) (te := tVar 4) rfl scSides.nd
        (pi_list (pe_call GM hr1 (by rfl) gM FM.kp bM .nil pass0 (pa_cons (pv 0) pa_nil)))
        (blkOk_by (N := ["some_tree", "first", "second", "near", "name"]) (sc := defScope sSides) (by decide +kernel))
        (fun _ _ _ _ _ => pg_name (i := 4) scSides.nd rfl (Or.inl rfl))
        (fun _ _ _ _ _ => pts_one (pt_cmpR (op_notInF Str hu) (pv 4) (pv 3) rfl))
        (fun _ _ _ _ _ => pv 4)) pa_nil))))), ?_⟩
    have hnl := names_len T G
    have hnn : T.ns.length ≤ 1000 := Nat.le_trans G.len (by decide)
    refine ⟨v, rfl, v, T, rfl, hT, hnn, fun H2 pn vs s2 hpn hpe hA => ⟨pn, rfl, ⟨_, SqL.of hpe⟩, fun D hD => ?_⟩⟩
    refine lc_fmL (K := K) (f := fun x : Str => if decide (b ∉ pth T.es a x) = true then some x else none) (SqL.of hpe) hA (by omega) hD (fun x vp H3 Qy Qn hx s hat hy hn => ?_) fun H3 ws s e hw => ?_
    · obtain rfl := hat
      obtain ⟨hO, _⟩ := G.pthO ha hx
      refine ⟨rfl, _, rfl, v, rfl, _, rfl, _, rfl, v, T, a, x, _, rfl, hT.keep (KT.of (s2.trans s)), GT.el G, hO, fun H4 p4 vs4 s4 hp40 hp4 hA4 => ?_⟩
      refine ⟨b, pth T.es a x, rfl, ⟨p4, vs4, rfl, hp4, hA4⟩, (by show 0 ≤ 30; decide), _, rfl, ?_⟩
      refine ite2 (fun h => ?_) (fun h => ?_)
      · exact ⟨_, rfl, hy _ _ x (by rw [if_pos h]) s4 rfl⟩
      · exact hn _ (by rw [if_neg h]) s4
    · rw [fm_filter] at hw
      obtain rfl := hw.strs
      have hD0 : H D = none := Same.free s2 hD
      refine ⟨_, rfl, v, rfl, v, T, rfl, hT.keep (KT.of (s2.trans s)), hnn, fun H4 pn2 vs2 s4 hpn2 hpe2 hA2 => ⟨pn2, rfl, ⟨_, SqL.of hpe2⟩, fun D2 hD2 => ?_⟩⟩
      refine lc_fmL (K := K) (f := fun x : Str => if decide (x ∉ nearOf T a b) = true then some x else none) (SqL.of hpe2) hA2 (by omega) hD2 (fun x vp H5 Qy Qn hx s5 hat hy hn => ?_) fun H5 ws2 s5 e2 hw2 => ?_
      · obtain rfl := hat
        refine ⟨rfl, _, rfl, _, rfl, x, nearOf T a b, rfl, ⟨D, _, rfl, s5 _ _ (s4 _ _ e), AllAt.of_strs _⟩, (by show 0 ≤ 30; decide), _, rfl, ?_⟩
        refine ite2 (fun h => ?_) (fun h => ?_)
        · exact ⟨_, rfl, hy _ _ x (by rw [if_pos h]) (Same.refl _) rfl⟩
        · exact hn _ (by rw [if_neg h]) (Same.refl _)
      · rw [fm_filter] at hw2
        obtain rfl := hw2.strs
        have s35 : Same H H5 := ((s2.trans s).trans s4).trans s5
        have hD20 : H D2 = none := Same.free ((s2.trans s).trans s4) hD2
        refine ⟨(by show 2 ≤ sizeLine; decide), fun t ht => ?_⟩
        exact q _ t D D2 (s35.trans (same_up ht)) upd_same hD0 hD20 (by rw [upd_ne (ne_of_none (s5 _ _ (s4 _ _ e)) ht)]; exact s5 _ _ (s4 _ _ e)) (by rw [upd_ne (ne_of_none e2 ht)]; exact e2)
/-! ### side_beyond -/
def spBeyond : Sp := fun vs H Q _ => ∃ (v ve : V) (T : Tr) (k : Str × Str) (r : Str), vs = [v, ve, .str r] ∧ TrAt H v T ∧ GT T ∧ Fl.at_ H ve k ∧ k.1 ∈ T.names ∧ k.2 ∈ T.names ∧ NewL H (beyond T k.1 k.2 r) Q
theorem scBeyond : FnScope ["some_tree", "edge", "start", "first", "second"] ["some_tree", "edge", "start"] (defScope sBeyond) := ⟨rfl, rfl, rfl, by decide +kernel, rfl, by decide +kernel, by decide +kernel⟩
theorem ok_beyond {f fS : Addr} {fd fdS : FuncData} (F : Fun K "side_beyond" "side_beyond" sBeyond f fd) (B : Bi mg)
    (FS : Fun K "sides" "sides" sSides fS fdS) (bS : Binds K fdS ["some_tree", "first", "second"] []) (gS : mg "sides" = some (.ref fS)) (GS : FnOk P w K mg base CX0 3 fS fdS ["some_tree", "first", "second"] spSides) :
    FnOk P w K mg base CX0 4 f fd ["some_tree", "edge", "start"] spBeyond := by
  refine F.ok scBeyond (fun vs H Q E h => ?_) (fun cdv A outer s H vs Q E hr h => ?_)
  · obtain ⟨v, ve, T, k, r, rfl, _⟩ := h
    rfl
  · obtain ⟨v, ve, T, k, r, rfl, hT, G, ⟨t, va, vb, rfl, ht, rfl, rfl⟩, h1, h2, q⟩ := h
    have hu := hr.units
    refine ⟨_, pss_cons (ps_asg (pe_call GS hr (by rfl) gS FS.kp bS .nil pass0 (pa_cons (pv 0) (pa_cons (pe_ix ix_tup (pv 1) pe_int (fun _ _ => rfl)) (pa_cons (pe_ix ix_tup (pv 1) pe_int (fun _ _ => rfl)) pa_nil))))
        (pg_tup rfl (pgs_cons (pg_name (i := 3) scBeyond.nd rfl (Or.inl rfl)) (pgs_cons (pg_name (i := 4) scBeyond.nd rfl (Or.inl rfl)) pgs_nil))))
      (pss_one (ps_ret (pe_ifExp (pt_cmpR (op_inF Str hu) (pv 2) (pv 3) rfl) (pv 4) (pv 3)))), ?_⟩
    refine ⟨v, rfl, _, rfl, t, _, 0, _, rfl, rfl, SqT.of ht, atI_nat (j := 0) rfl, _, rfl, t, _, 1, _, rfl, rfl, SqT.of ht, atI_nat (j := 1) rfl, v, T, _, _, rfl, hT, G, h1, h2, fun H2 p p1 p2 s2 hp n1 n2 hp1 hp2 => ?_⟩
    refine ⟨p, _, rfl, SqT.of hp, rfl, _, _, rfl, _, _, rfl, rfl, ?_⟩
    refine ⟨_, rfl, _, rfl, r, nearOf T k.1 k.2, rfl, ⟨p1, _, rfl, hp1, AllAt.of_strs _⟩, (by show 0 ≤ 30; decide), _, rfl, ?_⟩
    refine ite2 (fun h => ?_) (fun h => ?_)
    · have h' : r ∈ nearOf T k.1 k.2 := of_decide_eq_true h
      refine ⟨_, rfl, q _ p2 _ s2 n2 hp2 ?_⟩
      unfold beyond
      rw [if_pos h']
      exact AllAt.of_strs _
    · have h' : ¬ r ∈ nearOf T k.1 k.2 := fun z => h (decide_eq_true z)
      refine ⟨_, rfl, q _ p1 _ s2 n1 hp1 ?_⟩
      unfold beyond
      rw [if_neg h']
      exact AllAt.of_strs _
end
end W2
-- text W7
set_option Elab.async false
set_option linter.all false
set_option maxRecDepth 100000
/-! walk_length; own work -/
namespace W2
open PySem PySem.W L2 W0 W1 TM
/-- a key of two texts -/
def k2 (a b : Str) : List Key := [Sum.inr a, Sum.inr b]
theorem k2_inj {a b c d : Str} (h : k2 a b = k2 c d) : a = c ∧ b = d := by
  have h1 := (List.cons.inj h).1
  have h2 := (List.cons.inj (List.cons.inj h).2).1
  exact ⟨Sum.inr.inj h1, Sum.inr.inj h2⟩
/-- the dict of lengths -/
def lens (es : List Ed) : List (List Key × V) := es.map fun e => (k2 e.a e.b, .int e.c)
theorem lens_val (a b : Str) : ∀ es : List Ed, valV (lens es) (k2 a b) = (elook es (a, b)).map V.int
  | [] => rfl
  | e :: es => by
    have ih := lens_val a b es
    by_cases h : (e.a, e.b) = (a, b)
    · have h1 : e.a = a := congrArg Prod.fst h
      have h2 : e.b = b := congrArg Prod.snd h
      have l1 : valV (lens (e :: es)) (k2 a b) = some (.int e.c) := valV_pos (p := (k2 e.a e.b, V.int e.c)) (by rw [h1, h2])
      have l2 : elook (e :: es) (a, b) = some e.c := by
        unfold elook
        rw [List.find?_cons, decide_eq_true h]
        rfl
      rw [l1, l2]
      rfl
    · have l1 : valV (lens (e :: es)) (k2 a b) = valV (lens es) (k2 a b) := valV_neg (p := (k2 e.a e.b, V.int e.c)) (fun z => h (by
        obtain ⟨z1, z2⟩ := k2_inj z
        rw [z1, z2]))
      have l2 : elook (e :: es) (a, b) = elook es (a, b) := by
        unfold elook
        rw [List.find?_cons, decide_eq_false h]
      rw [l1, l2, ih]
theorem lens_new {es : List Ed} {e : Ed} {i : Nat} (hn : (es.map fun e => (e.a, e.b)).Nodup) (h : es[i]? = some e) : valV (lens (es.take i)) (k2 e.a e.b) = none := by
  rw [lens_val]
  cases f : elook (es.take i) (e.a, e.b) with
  | none => rfl
  | some c =>
    exfalso
    unfold elook at f
    obtain ⟨d, hd, _⟩ := Option.map_eq_some_iff.mp f
    have h1 := List.find?_some hd
    have h2 := List.mem_of_find?_eq_some hd
    have h3 : (d.a, d.b) = (e.a, e.b) := of_decide_eq_true h1
    obtain ⟨j, hj, ej⟩ := List.getElem_of_mem h2
    have hj1 : j < i := by
      rw [List.length_take] at hj
      omega
    have hj2 : (es.map fun e => (e.a, e.b))[j]? = some (e.a, e.b) := by
      have : es[j]? = some d := by
        rw [← ej, List.getElem_take]
        exact List.getElem?_eq_getElem _
      rw [List.getElem?_map, this]
      show some (d.a, d.b) = _
      rw [h3]
    have hi2 : (es.map fun e => (e.a, e.b))[i]? = some (e.a, e.b) := by
      rw [List.getElem?_map, h]
      rfl
    have := L2.nd_ix hn hj2 hi2
    omega
/-- the lengths along a walk -/
theorem wsum_at {es : List Ed} : ∀ {l : List Str} {t : Int}, wsum es l = some t → ∃ cs : List Int, cs.length = l.length - 1 ∧ cs.sum = t ∧ ∀ (k : Nat) (x y : Str), l[k]? = some x → l[k + 1]? = some y → ∃ c, elook es (edgeOf x y) = some c ∧ cs[k]? = some c
  | [], t, h => ⟨[], rfl, Option.some.inj h, fun k x y h1 _ => by simp at h1⟩
  | [z], t, h => ⟨[], rfl, Option.some.inj h, fun k x y _ h2 => by simp at h2⟩
  | z :: y :: l, t, h => by
    have h' : (match elook es (edgeOf z y), wsum es (y :: l) with | some c, some t => some (c + t) | _, _ => none) = some t := h
    cases e1 : elook es (edgeOf z y) with
    | none => rw [e1] at h'; simp at h'
    | some c =>
      cases e2 : wsum es (y :: l) with
      | none => rw [e1, e2] at h'; simp at h'
      | some t2 =>
        rw [e1, e2] at h'
        obtain ⟨cs, h1, h2, h3⟩ := wsum_at e2
        refine ⟨c :: cs, by rw [List.length_cons, h1]; simp, by rw [List.sum_cons, h2]; exact Option.some.inj h', fun k x w hx hw => ?_⟩
        cases k with
        | zero =>
          have a1 : z = x := Option.some.inj hx
          have a2 : y = w := Option.some.inj hw
          rw [← a1, ← a2]
          exact ⟨c, e1, rfl⟩
        | succ k =>
          obtain ⟨c2, b1, b2⟩ := h3 k x w hx hw
          exact ⟨c2, b1, b2⟩
section
variable {P : Program} {w : World} {K : PySem.W.Frag} {mg : Str → Option Value} {base : Heap}
def spWlen : Sp := fun vs H Q _ => ∃ (v vw : V) (T : Tr) (l : List Str) (x : Str) (t : Int), vs = [v, vw] ∧ TrAt H v T ∧ GT T ∧ LAt H vw l ∧ l.length ≤ 1000 ∧ l[0]? = some x ∧ x ∈ T.names ∧ wsum T.es l = some t ∧ ∀ H', Same H H' → Q (.int t) H'
theorem scWlen : FnScope ["some_tree", "walk", "names", "lengths", "first", "second", "length", "total", "k", "edge", "name", "weight"] ["some_tree", "walk"] (defScope sWlen) := ⟨rfl, rfl, rfl, by decide +kernel, rfl, by decide +kernel, by decide +kernel⟩
theorem ok_wlen {f fE : Addr} {fd fdE : FuncData} (F : Fun K "walk_length" "walk_length" sWlen f fd) (B : Bi mg)
    (FE : Fun K "edge_of" "edge_of" sEdgeOf fE fdE) (bE : Binds K fdE ["one", "other"] []) (gE : mg "edge_of" = some (.ref fE)) :
    FnOk P w K mg base CX0 2 f fd ["some_tree", "walk"] spWlen := by
  have GE : FnOk P w K mg base CX0 1 fE fdE ["one", "other"] spEdgeOf := ok_edgeOf FE B
  refine F.ok scWlen (fun vs H Q E h => ?_) (fun cdv A outer s H vs Q E hr h => ?_)
  · obtain ⟨v, vw, T, l, x, t, rfl, _⟩ := h
    rfl
  · obtain ⟨v, vw, T, l, x, t, rfl, hT, G, ⟨pw, ws, rfl, hpw, hW⟩, hln, hx0, hx, hsum, q⟩ := h
    obtain rfl := hW.strs
    have hu := hr.units
    have hu1 := hu_of hr
    refine ⟨_, pss_cons (ps_setLc (i := 2) (own := [("name", 10), ("weight", 11)]) (g := gTup K 2 (gCons (gName 10) (gCons (gName 11) gNil))) (tt := tYes) (te := tVar 10) (by rfl) scWlen.nd rfl rfl (sw_true rfl rfl rfl (by decide +kernel)) (pi_tup (pe_ix ix_tup (pv 0) pe_int (fun _ _ => rfl)))
        (blkOk_by (N := ["some_tree", "walk", "names", "lengths", "first", "second", "length", "total", "k", "edge", "name", "weight"]) (sc := defScope sWlen) (by decide +kernel))
        (fun _ _ _ _ _ => pg_tup (n := 2) rfl (pgs_cons (pg_name (i := 10) scWlen.nd rfl (Or.inl rfl) (Or.inr rfl)) (pgs_cons (pg_name (i := 11) scWlen.nd rfl (Or.inl rfl) (Or.inr rfl)) pgs_nil)))
        (fun _ _ _ _ _ => pts_nil) (fun _ _ _ _ _ => pv 10))
      (pss_cons (ps_if (PW.pt (pw_or (pt_cmpR op_eq (pe_callB call_len_seq (by rfl) B.len PySem.boot_len (pa_cons (pv 1) pa_nil)) pe_int (nomark _))
          (pw_or1 (pt_cmpR (op_notInF Str hu) (pe_ix ix_list (pv 1) pe_int (fun _ _ => rfl)) (pv 2) rfl)))) (pss_one (ps_ret pe_non)) pss_nil)
      (pss_cons (ps_set (i := 3) scWlen.nd rfl (Or.inl rfl) pe_dnewT)
      (pss_cons (ps_for PassesOwn.never rfl (pi_tup (pe_ix ix_tup (pv 0) pe_int (fun _ _ => rfl)))
          (pg_tup rfl (pgs_cons (pg_name (i := 4) scWlen.nd rfl (Or.inl rfl)) (pgs_cons (pg_name (i := 5) scWlen.nd rfl (Or.inl rfl)) (pgs_cons (pg_name (i := 6) scWlen.nd rfl (Or.inl rfl)) pgs_nil))))
          (pss_one (ps_dput hu1 (pv 3) (pe_tup (pa_cons (pv 4) (pa_cons (pv 5) pa_nil))) (pv 6) rfl)))
      (pss_cons (ps_set (i := 7) scWlen.nd rfl (Or.inl rfl) pe_int)
      (pss_cons (ps_for PassesOwn.never rfl (pi_range2 (by rfl) B.range (pa_cons pe_int (pa_cons (pe_callB call_len_seq (by rfl) B.len PySem.boot_len (pa_cons (pv 1) pa_nil)) pa_nil))) (pg_name (i := 8) scWlen.nd rfl (Or.inl rfl))
          (pss_cons (ps_set (i := 9) scWlen.nd rfl (Or.inl rfl) (pe_call GE hr (by rfl) gE FE.kp bE .nil pass0 (pa_cons (pe_ix ix_list (pv 1) (pe_op op_sub (pv 8) pe_int) (fun _ _ => rfl)) (pa_cons (pe_ix ix_list (pv 1) (pv 8) (fun _ _ => rfl)) pa_nil))))
          (pss_cons (ps_if (pt_cmp (pc_dnotin hu1 (pv 9) (pv 3)) (by rfl)) (pss_one (ps_ret pe_non)) pss_nil)
          (pss_one (ps_set (i := 7) scWlen.nd rfl (Or.inl rfl) (pe_op op_add (pv 7) (pe_dget hu1 (pv 3) (pv 9) (fun _ _ => rfl))))))))
      (pss_one (ps_ret (pv 7)))))))), ?_⟩
    obtain ⟨p, a, b, rfl, hp, ⟨pn, ns, rfl, hn, hN⟩, ⟨pe, es, rfl, he, hE⟩⟩ := hT
    have hnn : T.ns.length ≤ 1000 := Nat.le_trans G.len (by decide)
    obtain ⟨cs, hcl, hcs, hca⟩ := wsum_at hsum
    have hl0 : 1 ≤ l.length := by
      have := (List.getElem?_eq_some_iff.mp hx0).1
      omega
    have hlm : (l.map V.str).length = l.length := List.length_map ..
    have hx0' : (l.map V.str)[0]? = some (.str x) := by rw [List.getElem?_map, hx0]; rfl
    -- names = [..]
    refine ⟨_, rfl, p, _, 0, _, rfl, rfl, SqT.of hp, atI_nat (j := 0) rfl, pn, rfl, ⟨_, SqT.of hn⟩, fun D hD => ?_⟩
    refine lc_fmT (K := K) (f := fun x : Str × Int => some x.1) hn hN hnn hD (fun x v H2 Qy Qn _ s hat hy _ => ?_) fun H2 ws s2 e hw => ?_
    · obtain ⟨t, va, vb, rfl, ht, rfl, rfl⟩ := hat
      exact ⟨t, _, rfl, SqT.of ht, rfl, _, _, rfl, _, _, rfl, rfl, rfl, _, rfl, hy _ _ _ rfl (Same.refl _) rfl⟩
    rw [fm_map] at hw
    -- if len(walk) == 0 or walk[0] not in names
    refine ⟨_, rfl, pw, _, rfl, .inl (SqL.of (s2 _ _ hpw)), rfl, _, rfl, ?_⟩
    have z0 : decide (V.int ((l.map V.str).length : Int) = V.int 0) = false := decide_eq_false fun z => by
      have := V.int.inj z
      omega
    rw [z0]
    refine iteF ⟨_, rfl, pw, _, _, _, rfl, rfl, SqL.of (s2 _ _ hpw), atI_nat (j := 0) hx0', _, rfl, x, T.names, rfl, ⟨D, ws, rfl, e, hw⟩, (by show 0 ≤ 30; decide), _, rfl, ?_⟩
    rw [decide_eq_false (fun z : x ∉ T.names => z hx)]
    refine iteF ?_
    -- lengths = {}
    intro d hd
    have hd0 : H d = none := Same.free s2 hd
    have s3 : Same H (upd H2 d (.dT [])) := s2.trans (same_up hd)
    refine ⟨_, rfl, p, _, 1, _, rfl, rfl, SqT.of (s3 _ _ hp), atI_nat (j := 1) rfl, pe, rfl, ⟨_, SqT.of (s3 _ _ he)⟩,
      for_tup (K := K) (a := pe) (xs := es) (fun i σ H' => ∃ f4 f5 f6 : Option V, σ = [some (.ref p), some (.ref pw), some (.ref D), some (.ref d), f4, f5, f6, none, none, none, none, none] ∧ Same H H' ∧ H' d = some (.dT (lens (T.es.take i))))
        ⟨none, none, none, rfl, s3, upd_same⟩ (fun i σ H' _ h => ?_) ?_ ?_⟩
    · obtain ⟨_, _, _, _, s, _⟩ := h
      exact SqT.of (s _ _ he)
    · rintro i y σ H' hi ⟨f4, f5, f6, rfl, s, hd'⟩
      obtain ⟨ed, hei, t2, va, vb, vc, rfl, ht, rfl, rfl, rfl⟩ := hE.get hi
      refine ⟨t2, _, rfl, SqT.of (s _ _ ht), rfl, _, _, rfl, _, _, rfl, _, _, rfl, rfl, ?_⟩
      refine ⟨_, rfl, _, rfl, _, rfl, _, rfl, (by show 2 ≤ sizeLine; decide), fun t3 ht3 => ?_⟩
      have dt3 : d ≠ t3 := ne_of_none hd' ht3
      have hll : (lens (T.es.take i)).length ≤ 1000 := by
        unfold lens
        rw [List.length_map, List.length_take]
        have := G.elen
        omega
      refine ⟨d, _, rfl, DPut.t (k := k2 ed.a ed.b) (by rw [upd_ne dt3]; exact hd') upd_same (small1000 hll), ?_⟩
      refine ⟨_, _, _, rfl, same_grow (s.trans (same_up ht3)) hd0, ?_⟩
      rw [upd_same, putK_new _ (lens_new G.keys hei)]
      unfold lens
      rw [List.take_add_one, hei, List.map_append]
      rfl
    · rintro σ H' ⟨f4, f5, f6, rfl, s, hd'⟩
      have hlE := hE.len
      rw [hlE, List.take_length] at hd'
      -- total = 0; for k in range(1, len(walk))
      refine ⟨_, rfl, pw, _, rfl, .inl (SqL.of (s _ _ hpw)), _, _, rfl, (by omega), ?_⟩
      have hnk : (((l.map V.str).length : Int) - 1).toNat = l.length - 1 := by omega
      rw [hnk]
      refine for_range (lo := 1) (n := l.length - 1) (fun i σ H3 => ∃ f8 f9 : Option V, σ = [some (.ref p), some (.ref pw), some (.ref D), some (.ref d), f4, f5, f6, some (.int (cs.take i).sum), f8, f9, none, none] ∧ Same H' H3)
        ⟨none, none, rfl, Same.refl _⟩ ?_ ?_
      · rintro i σ H3 hi ⟨f8, f9, rfl, s4⟩
        have h1 : l[i]? = some l[i] := List.getElem?_eq_getElem (by omega)
        have h2 : l[i + 1]? = some l[i + 1] := List.getElem?_eq_getElem (by omega)
        have e1 : (l.map V.str)[i]? = some (.str l[i]) := by rw [List.getElem?_map, h1]; rfl
        have e2 : (l.map V.str)[i + 1]? = some (.str l[i + 1]) := by rw [List.getElem?_map, h2]; rfl
        obtain ⟨c, hc, hci⟩ := hca i _ _ h1 h2
        have s5 := s.trans s4
        refine ⟨_, rfl, _, rfl, _, _, rfl, rfl, pw, _, _, _, rfl, rfl, SqL.of (s5 _ _ hpw), at_of (j := i) (by omega) e1, _, rfl, _, rfl, pw, _, _, _, rfl, rfl, SqL.of (s5 _ _ hpw), at_of (j := i + 1) (by omega) e2, _, _, rfl, fun t4 ht4 => ?_⟩
        have hd3 : (upd H3 t4 (.tup [.str (edgeOf l[i] l[i + 1]).1, .str (edgeOf l[i] l[i + 1]).2])) d = some (.dT (lens T.es)) := by
          rw [upd_ne (ne_of_none (s4 _ _ hd') ht4)]
          exact s4 _ _ hd'
        have hv : valV (lens T.es) (k2 (edgeOf l[i] l[i + 1]).1 (edgeOf l[i] l[i + 1]).2) = some (.int c) := by
          rw [lens_val]
          show (elook T.es (edgeOf l[i] l[i + 1])).map V.int = _
          rw [hc]
          rfl
        refine ⟨_, rfl, _, rfl, d, _, rfl, DGet.t (k := k2 (edgeOf l[i] l[i + 1]).1 (edgeOf l[i] l[i + 1]).2) hd3 upd_same, _, rfl, ?_⟩
        rw [hv]
        refine iteF ⟨_, rfl, _, rfl, _, rfl, d, _, rfl, (by rw [← hv]; exact DGet.t hd3 upd_same), _, _, rfl, rfl, ?_⟩
        refine ⟨some (.int (1 + (i : Int))), some (.ref t4), ?_, s4.trans (same_up ht4)⟩
        rw [sum_take hci]
        rfl
      · rintro σ H3 ⟨f8, f9, rfl, s4⟩
        rw [← hcl, List.take_length, hcs]
        exact ⟨_, rfl, q _ (s.trans s4)⟩
end
end W2
-- text W8
set_option Elab.async false
set_option linter.all false
set_option maxRecDepth 100000
/-! walk_from; own work -/
namespace W2
open PySem PySem.W L2 W0 W1 TM
theorem dec_t {p : Prop} {i : Decidable p} (h : @decide p i = true) : p := @of_decide_eq_true p i h
theorem dec_m {p : Prop} {i : Decidable p} (h : p) : @decide p i = true := @decide_eq_true p i h
theorem _root_.W0.LAt.keep {α : Type} [DecidableEq α] [Datum α] [Fl α] {H H' : Hp} {v : V} {xs : List α} (s : Same H H') (h : LAt H v xs) : LAt H' v xs := by
  obtain ⟨p, vs, e, e2, h1⟩ := h
  exact ⟨p, vs, e, s _ _ e2, h1.keep (KT.of s)⟩
theorem oS_scal (a : Str) (o : Option Str) : scal (.str a) (oS o) = true := by cases o <;> rfl
theorem oS_eq (a : Str) (o : Option Str) : decide (V.str a = oS o) = decide (some a = o) := by
  cases o with
  | none => rw [decide_eq_false (fun z => by cases z), decide_eq_false (fun z => by cases z)]
  | some b =>
    show decide (V.str a = V.str b) = _
    by_cases h : a = b
    · rw [h, decide_eq_true rfl, decide_eq_true rfl]
    · rw [decide_eq_false (fun z => h (V.str.inj z)), decide_eq_false (fun z => h (Option.some.inj z))]
theorem oS_non (o : Option Str) : decide (oS o = V.non) = o.isNone := by
  cases o with
  | none => exact decide_eq_true rfl
  | some b => exact decide_eq_false fun z => by cases z
section
variable {P : Program} {w : World} {K : PySem.W.Frag} {mg : Str → Option Value} {base : Heap}
def spWalk (n : Nat) : Sp := fun vs H Q _ => ∃ (v ve vy : V) (T : Tr) (nd : List (Str × Str)) (x : Str) (came : Option Str) (way res : List Str), vs = [v, ve, .str x, oS came, vy] ∧ TrAt H v T ∧ T.es.length ≤ 100 ∧ LAt H ve nd ∧ LAt H vy way ∧ way.length ≤ 1000 ∧
  wf T.es nd n x came way = some res ∧ NewL H res Q
theorem scWalk : FnScope ["some_tree", "edges", "name", "came", "way", "walk", "last", "other", "_"] ["some_tree", "edges", "name", "came", "way"] (defScope sWalk) := ⟨rfl, rfl, rfl, by decide +kernel, rfl, by decide +kernel, by decide +kernel⟩
theorem ok_walk {f fN fE : Addr} {fd fdN fdE : FuncData} (F : Fun K "walk_from" "walk_from" sWalk f fd) (B : Bi mg) (bW : Binds K fd ["some_tree", "edges", "name", "came", "way"] []) (gW : mg "walk_from" = some (.ref f))
    (FN : Fun K "neighbors" "neighbors" sNbrs fN fdN) (bN : Binds K fdN ["some_tree", "name"] []) (gN : mg "neighbors" = some (.ref fN))
    (FE : Fun K "edge_of" "edge_of" sEdgeOf fE fdE) (bE : Binds K fdE ["one", "other"] []) (gE : mg "edge_of" = some (.ref fE)) :
    ∀ n : Nat, FnOk P w K mg base CX0 (n + 2) f fd ["some_tree", "edges", "name", "came", "way"] (spWalk n) := by
  have GN : FnOk P w K mg base CX0 1 fN fdN ["some_tree", "name"] spNbrs := ok_nbrs FN B
  have GE : FnOk P w K mg base CX0 1 fE fdE ["one", "other"] spEdgeOf := ok_edgeOf FE B
  intro n
  induction n with
  | zero =>
    refine F.ok scWalk (fun vs H Q E h => ?_) (fun cdv A outer s H vs Q E hr h => ?_)
    · obtain ⟨_, _, _, _, _, _, _, _, _, _, _, _, _, _, _, h, _⟩ := h
      cases h
    · obtain ⟨_, _, _, _, _, _, _, _, _, _, _, _, _, _, _, h, _⟩ := h
      cases h
  | succ n GW =>
  refine F.ok scWalk (fun vs H Q E h => ?_) (fun cdv A outer s H vs Q E hr h => ?_)
  · obtain ⟨_, _, _, _, _, _, _, _, _, rfl, _⟩ := h
    rfl
  · obtain ⟨v, ve, vy, T, nd, x, came, way, res, rfl, hT, hl, hE, hY, hyl, hres, q⟩ := h
    have hu := hr.units
    have hr1 : Room 1 _ := hr.mono (by omega)
    refine ⟨_, pss_cons (ps_set (i := 5) scWalk.nd rfl (Or.inl rfl) (pe_lst (pa_cons (pv 2) pa_nil)))
      (pss_cons (ps_set (i := 6) scWalk.nd rfl (Or.inl rfl) pe_non)
      (C8.pss_cut (ps_if (PW.pt (pw_and (pt_cmpR (op_inF Str hu) (pv 2) (pv 4) rfl)
          (pw_and1 (pt_cmpR op_lt (pe_op op_add (pe_bm PySem.F.plainAttrs_list PySem.F.slot_list_index PySem.F.type_list_index (mt_indexF Str hu) (pv 4) (pa_cons (pv 2) pa_nil)) pe_int)
            (pe_callB call_len_seq (by rfl) B.len PySem.boot_len (pa_cons (pv 4) pa_nil)) (nomark _)))))
        (pss_one (ps_set (i := 6) scWalk.nd rfl (Or.inl rfl) (pe_ix ix_list (pv 4) (pe_op op_add (pe_bm PySem.F.plainAttrs_list PySem.F.slot_list_index PySem.F.type_list_index (mt_indexF Str hu) (pv 4) (pa_cons (pv 2) pa_nil)) pe_int) (fun _ _ => rfl)))) pss_nil)
      (pss_cons (ps_for PassesOwn.never rfl (pi_list (pe_call GN hr1 (by rfl) gN FN.kp bN .nil pass0 (pa_cons (pv 0) (pa_cons (pv 2) pa_nil))))
          (pg_tup rfl (pgs_cons (pg_name (i := 7) scWalk.nd rfl (Or.inl rfl)) (pgs_cons (pg_name (i := 8) scWalk.nd rfl (Or.inl rfl)) pgs_nil)))
          (pss_one (ps_if (PW.pt (pw_and (pt_cmpR op_ne (pv 7) (pv 3) (nomark _)) (pw_and (pt_cmpR op_ne (pv 7) (pv 6) (nomark _))
              (pw_and1 (pt_cmpR (op_inF (Str × Str) hu) (pe_call GE hr1 (by rfl) gE FE.kp bE .nil pass0 (pa_cons (pv 2) (pa_cons (pv 7) pa_nil))) (pv 1) rfl)))))
            (pss_one (ps_set (i := 5) scWalk.nd rfl (Or.inl rfl) (pe_op op_cat (pe_op op_cat (pv 5) (pe_call GW hr (by rfl) gW F.kp bW .nil pass0 (pa_cons (pv 0) (pa_cons (pv 1) (pa_cons (pv 7) (pa_cons (pv 2) (pa_cons (pe_lst pa_nil) pa_nil)))))))
              (pe_lst (pa_cons (pv 2) pa_nil))))) pss_nil)))
      (pss_cons (ps_if (pt_cmpR op_notN (pv 6) pe_non (nomark _))
          (pss_one (ps_set (i := 5) scWalk.nd rfl (Or.inl rfl) (pe_op op_cat (pv 5) (pe_call GW hr (by rfl) gW F.kp bW .nil pass0 (pa_cons (pv 0) (pa_cons (pv 1) (pa_cons (pv 6) (pa_cons (pv 2) (pa_cons (pv 4) pa_nil))))))))) pss_nil)
      (pss_one (ps_ret (pv 5))))))), ?_⟩
    unfold wf at hres
    -- walk = [name]; last = None
    refine ⟨_, rfl, (by show 1 ≤ sizeLine; decide), fun pw hpw => ?_⟩
    have s0 : Same H (upd H pw (.lst [.str x])) := same_up hpw
    have hpe : (upd H pw (.lst [.str x])) pw = some (.lst ([x].map V.str)) := upd_same
    generalize hH1 : upd H pw (.lst [.str x]) = H1 at s0 hpe ⊢
    refine ⟨fun σ H' => σ = [some v, some ve, some (.str x), some (oS came), some vy, some (.ref pw), some (oS (lastOf way x)), none, none] ∧ H' = H1, ?_, ?_⟩
    · have hY1 := hY.keep s0
      obtain ⟨py, wy, rfl, hpy, hW⟩ := id hY1
      obtain rfl := hW.strs
      have hwl : (way.map V.str).length = way.length := List.length_map ..
      refine ⟨_, rfl, _, rfl, x, way, rfl, hY1, (by show 0 ≤ 30; decide), _, rfl, ?_⟩
      have lnone : way.length ≤ way.findIdx (fun y => decide (y = x)) + 1 → lastOf way x = none := fun h => List.getElem?_eq_none h
      refine ite2 (fun h => ?_) (fun h => ?_)
      · have hm : x ∈ way := of_decide_eq_true h
        refine ⟨_, rfl, .inl ⟨rfl, _, SqL.of hpy⟩, _, rfl, _, x, way, rfl, hY1, rfl, (by show 0 ≤ 30; decide), hm, hyl, _, _, rfl, rfl, _, rfl, py, _, rfl, .inl (SqL.of hpy), _, _, rfl, rfl, _, rfl, ?_⟩
        refine ite2 (fun h2 => ?_) (fun h2 => ?_)
        · have h3 := of_decide_eq_true h2
          rw [hwl] at h3
          have h4 : way.findIdx (fun y => decide (y = x)) + 1 < way.length := by omega
          have hl : lastOf way x = some (way[way.findIdx (fun y => decide (y = x)) + 1]) := List.getElem?_eq_getElem h4
          refine ⟨_, rfl, _, rfl, .inl ⟨rfl, _, SqL.of hpy⟩, _, rfl, _, x, way, rfl, hY1, rfl, (by show 0 ≤ 30; decide), hm, hyl, _, _, rfl, rfl, py, _, _, _, rfl, rfl, SqL.of hpy, at_of (j := way.findIdx (fun y => decide (y = x)) + 1) (by omega) (by rw [List.getElem?_map, List.getElem?_eq_getElem h4]; rfl), ?_⟩
          refine ⟨?_, rfl⟩
          rw [hl]
          rfl
        · have h3 : ¬ ((way.findIdx (fun y => decide (y = x)) : Int) + 1 < ((way.map V.str).length : Int)) := fun z => h2 (decide_eq_true z)
          rw [hwl] at h3
          refine ⟨?_, rfl⟩
          rw [lnone (by omega)]
          rfl
      · have hm : x ∉ way := fun z => h (decide_eq_true z)
        refine iteF ⟨?_, rfl⟩
        have : way.findIdx (fun y => decide (y = x)) = way.length := List.findIdx_eq_length.mpr fun y hy => decide_eq_false fun z => hm (z ▸ hy)
        rw [lnone (by omega)]
        rfl
    · rintro σ H' ⟨rfl, rfl⟩
      cases hb : wloop (fun o => wf T.es nd n o (some x) []) nd x came (lastOf way x) (nbrs T.es x) [x] with
      | none => rw [hb] at hres; cases hres
      | some body =>
      rw [hb] at hres
      -- for other, _ in neighbors(some_tree, name)
      refine ⟨v, rfl, _, rfl, v, T, x, rfl, hT.keep (KT.of s0), hl, fun H2 pn vs s2 hpn hpnl hA => ⟨pn, rfl, ⟨_, SqL.of hpnl⟩, ?_⟩⟩
      refine for_list (K := K) (a := pn) (xs := vs) (fun i σ H3 => ∃ (p5 : Addr) (acc : List Str) (f7 f8 : Option V), σ = [some v, some ve, some (.str x), some (oS came), some vy, some (.ref p5), some (oS (lastOf way x)), f7, f8] ∧ Same H2 H3 ∧ H p5 = none ∧ H3 p5 = some (.lst (acc.map V.str)) ∧ acc.length ≤ 1000 ∧
          wloop (fun o => wf T.es nd n o (some x) []) nd x came (lastOf way x) ((nbrs T.es x).drop i) acc = some body)
        ⟨pw, [x], none, none, rfl, Same.refl _, hpw, s2 _ _ hpe, (by show 1 ≤ 1000; decide), hb⟩ (fun i σ H3 _ h => ?_) ?_ ?_
      · obtain ⟨_, _, _, _, _, s3, _⟩ := h
        exact SqL.of (s3 _ _ hpnl)
      · rintro i y σ H3 hi ⟨p5, acc, f7, f8, rfl, s3, h50, h5, hal, hbl⟩
        obtain ⟨e, hei, t, va, vb, rfl, ht, rfl, rfl⟩ := (hA.keep (KT.of s3)).get hi
        have hdr : (nbrs T.es x).drop i = e :: (nbrs T.es x).drop (i + 1) := by
          obtain ⟨h1, h2⟩ := List.getElem?_eq_some_iff.mp hei
          rw [List.drop_eq_getElem_cons h1, h2]
        rw [hdr] at hbl
        unfold wloop at hbl
        have s03 : Same H H3 := (s0.trans s2).trans s3
        refine ⟨t, _, rfl, SqT.of ht, rfl, _, _, rfl, _, _, rfl, rfl, ?_⟩
        refine ⟨_, rfl, _, rfl, oS_scal _ _, _, rfl, ?_⟩
        rw [oS_eq]
        refine ite2 (fun c1 => ?_) (fun c1 => ?_)
        · refine ⟨_, rfl, _, rfl, oS_scal _ _, _, rfl, ?_⟩
          rw [oS_eq]
          refine ite2 (fun c2 => ?_) (fun c2 => ?_)
          · refine ⟨_, rfl, _, rfl, _, _, rfl, fun t3 ht3 => ?_⟩
            have s4 : Same H3 (upd H3 t3 (.tup [.str (edgeOf x e.1).1, .str (edgeOf x e.1).2])) := same_up ht3
            refine ⟨_, rfl, edgeOf x e.1, nd, ⟨t3, _, _, rfl, upd_same, rfl, rfl⟩, hE.keep (s03.trans s4), (by show max 0 0 + 1 ≤ 30; decide), _, rfl, ?_⟩
            refine ite2 (fun c3 => ?_) (fun c3 => ?_)
            · have hc : wcond nd x came (lastOf way x) e = true := by
                unfold wcond
                rw [Bool.and_eq_true, Bool.and_eq_true]
                refine ⟨?_, ?_, dec_m (dec_t c3)⟩
                · rw [decide_eq_true_eq]
                  intro z
                  rw [decide_eq_true z] at c1
                  exact absurd c1 (by decide)
                · rw [decide_eq_true_eq]
                  intro z
                  rw [decide_eq_true z] at c2
                  exact absurd c2 (by decide)
              rw [if_pos hc] at hbl
              cases hrec : wf T.es nd n e.1 (some x) [] with
              | none => simp only [hrec] at hbl; cases hbl
              | some r =>
              simp only [hrec] at hbl
              by_cases hsz : (acc ++ r ++ [x]).length ≤ 1000
              · rw [if_pos hsz] at hbl
                generalize hH4 : upd H3 t3 (.tup [.str (edgeOf x e.1).1, .str (edgeOf x e.1).2]) = H4 at s4
                refine ⟨_, rfl, _, rfl, _, rfl, _, rfl, _, rfl, Nat.zero_le _, fun l0 hl0 => ?_⟩
                have s5 : Same H4 (upd H4 l0 (.lst [])) := same_up hl0
                have s05 : Same H (upd H4 l0 (.lst [])) := (s03.trans s4).trans s5
                refine ⟨v, ve, .ref l0, T, nd, e.1, some x, [], r, rfl, hT.keep (KT.of s05), hl, hE.keep s05, ⟨l0, [], rfl, upd_same, True.intro⟩, Nat.zero_le _, hrec, fun H6 p6 vs6 s6 hp60 hp6 hA6 => ?_⟩
                obtain rfl := hA6.strs
                have h56 : H6 p5 = some (.lst (acc.map V.str)) := s6 _ _ (s5 _ _ (s4 _ _ h5))
                have hsz2 : acc.length + r.length + 1 ≤ 1000 := by
                  simp only [List.length_append, List.length_cons, List.length_nil] at hsz
                  omega
                refine ⟨p5, p6, _, _, rfl, rfl, h56, hp6, (by rw [List.length_map, List.length_map]; exact sz1000 (by omega)), fun p7 hp7 => ?_⟩
                refine ⟨_, rfl, (by show 1 ≤ sizeLine; decide), fun l8 hl8 => ?_⟩
                refine ⟨p7, l8, _, _, rfl, rfl, (by rw [upd_ne (ne_of_none upd_same hl8)]; exact upd_same), upd_same, ?_, fun p9 hp9 => ?_⟩
                · rw [List.length_append, List.length_map, List.length_map]
                  exact sz1000 (by show acc.length + r.length + 1 ≤ 1000; exact hsz2)
                refine ⟨p9, acc ++ r ++ [x], _, _, rfl, s3.trans (((s4.trans s5).trans s6).trans (((same_up hp7).trans (same_up hl8)).trans (same_up hp9))), ?_, ?_, hsz, hbl⟩
                · have z := Same.free (((s05.trans s6).trans (same_up hp7)).trans (same_up hl8)) hp9
                  exact z
                · rw [upd_same, List.map_append, List.map_append]
                  rfl
              · rw [if_neg hsz] at hbl
                cases hbl
            · have hc : ¬ wcond nd x came (lastOf way x) e = true := fun z => c3 (by
                rw [wcond_iff] at z
                exact dec_m z.2.2)
              rw [if_neg hc] at hbl
              exact ⟨p5, acc, _, _, rfl, s3.trans s4, h50, s4 _ _ h5, hal, hbl⟩
          · have hc : ¬ wcond nd x came (lastOf way x) e = true := fun z => c2 (by
              rw [wcond_iff] at z
              rw [decide_eq_false z.2.1]
              rfl)
            rw [if_neg hc] at hbl
            exact iteF ⟨p5, acc, _, _, rfl, s3, h50, h5, hal, hbl⟩
        · have hc : ¬ wcond nd x came (lastOf way x) e = true := fun z => c1 (by
            rw [wcond_iff] at z
            rw [decide_eq_false z.1]
            rfl)
          rw [if_neg hc] at hbl
          exact iteF ⟨p5, acc, _, _, rfl, s3, h50, h5, hal, hbl⟩
      · rintro σ H3 ⟨p5, acc, f7, f8, rfl, s3, h50, h5, hal, hbl⟩
        have hdn : (nbrs T.es x).drop vs.length = [] := by
          rw [hA.len]
          exact List.drop_length
        rw [hdn] at hbl
        have hacc : acc = body := Option.some.inj hbl
        subst hacc
        have s03 : Same H H3 := (s0.trans s2).trans s3
        -- if last is not None
        refine ⟨_, rfl, rfl, _, rfl, ?_⟩
        rw [oS_non]
        cases hlo : lastOf way x with
        | none =>
          simp only [hlo] at hres
          obtain rfl := Option.some.inj hres
          exact iteF ⟨_, rfl, q H3 p5 _ s03 h50 h5 (AllAt.of_strs _)⟩
        | some l =>
          simp only [hlo] at hres
          cases hrec : wf T.es nd n l (some x) way with
          | none => rw [hrec] at hres; cases hres
          | some r =>
          simp only [hrec] at hres
          by_cases hsz : (acc ++ r).length ≤ 1000
          · rw [if_pos hsz] at hres
            obtain rfl := Option.some.inj hres
            rw [List.length_append] at hsz
            refine iteT ⟨_, rfl, v, rfl, _, rfl, _, rfl, _, rfl, _, rfl, v, ve, vy, T, nd, l, some x, way, r, rfl, hT.keep (KT.of s03), hl, hE.keep s03, hY.keep s03, hyl, hrec, fun H6 p6 vs6 s6 hp60 hp6 hA6 => ?_⟩
            obtain rfl := hA6.strs
            refine ⟨p5, p6, _, _, rfl, rfl, s6 _ _ h5, hp6, (by rw [List.length_map, List.length_map]; exact sz1000 hsz), fun p7 hp7 => ?_⟩
            refine ⟨_, rfl, q _ p7 _ ((s03.trans s6).trans (same_up hp7)) (Same.free (s03.trans s6) hp7) upd_same ?_⟩
            rw [← List.map_append]
            exact AllAt.of_strs _
          · rw [if_neg hsz] at hres
            cases hres
end
end W2
-- text W9
set_option Elab.async false
set_option linter.all false
set_option maxRecDepth 100000
/-! needed, round_of, end_of, trip_of, round_reason, trip_reason; own work -/
namespace W2
open PySem PySem.W L2 W0 W1 TM
/-- all stands but the table at PT, which is a table still -/
def SmT (PT : Addr) (H H' : Hp) : Prop := (∀ b o, b ≠ PT → H b = some o → H' b = some o) ∧ GxR.TabG H' PT
theorem tabG_same {PT : Addr} {H H' : Hp} (t : GxR.TabG H PT) (s : Same H H') : GxR.TabG H' PT := by
  obtain ⟨ps, e, h⟩ := t
  exact ⟨ps, s _ _ e, h⟩
theorem tabG_ne {PT b : Addr} {H : Hp} {o : HO} (t : GxR.TabG H PT) (e : H b = some o) (n : ∀ ps, o ≠ .tbl ps) : b ≠ PT := by
  obtain ⟨ps, e2, _⟩ := t
  intro z
  rw [z, e2] at e
  exact n ps (Option.some.inj e).symm
theorem SmT.refl {PT : Addr} {H : Hp} (t : GxR.TabG H PT) : SmT PT H H := ⟨fun _ _ _ h => h, t⟩
theorem SmT.trans {PT : Addr} {H H1 H2 : Hp} (a : SmT PT H H1) (b : SmT PT H1 H2) : SmT PT H H2 := ⟨fun c o n h => b.1 c o n (a.1 c o n h), b.2⟩
theorem SmT.of {PT : Addr} {H H' : Hp} (t : GxR.TabG H PT) (s : Same H H') : SmT PT H H' := ⟨fun _ _ _ h => s _ _ h, tabG_same t s⟩
theorem SmT.tabbed {PT : Addr} {H H' : Hp} (t : GxR.Tabbed PT H H') : SmT PT H H' := ⟨fun b o n h => by rw [t.2 b n]; exact h, t.1⟩
theorem SmT.lst {PT : Addr} {H H' : Hp} {a : Addr} {xs : List V} (s : SmT PT H H') (t : GxR.TabG H PT) (e : H a = some (.lst xs)) : H' a = some (.lst xs) := s.1 _ _ (tabG_ne t e (fun ps z => by cases z)) e
theorem SmT.tup {PT : Addr} {H H' : Hp} {a : Addr} {xs : List V} (s : SmT PT H H') (t : GxR.TabG H PT) (e : H a = some (.tup xs)) : H' a = some (.tup xs) := s.1 _ _ (tabG_ne t e (fun ps z => by cases z)) e
theorem SmT.kt {PT : Addr} {H H' : Hp} (s : SmT PT H H') (t : GxR.TabG H PT) : KT H H' := fun _ _ e => s.tup t e
theorem SmT.lat {α : Type} [DecidableEq α] [Datum α] [Fl α] {PT : Addr} {H H' : Hp} {v : V} {xs : List α} (s : SmT PT H H') (t : GxR.TabG H PT) (h : LAt H v xs) : LAt H' v xs := by
  obtain ⟨p, vs, e, e2, h1⟩ := h
  exact ⟨p, vs, e, s.lst t e2, h1.keep (s.kt t)⟩
theorem SmT.free {PT : Addr} {H H' : Hp} (s : SmT PT H H') (t : GxR.TabG H PT) {l : Addr} (h : H' l = none) : H l = none := by
  cases q : H l with
  | none => rfl
  | some o =>
    by_cases z : l = PT
    · obtain ⟨ps, e, _⟩ := s.2
      rw [z, e] at h
      cases h
    · rw [s.1 l o z q] at h
      cases h
/-- a new object grows: the table is not it -/
theorem SmT.grow {PT : Addr} {H H1 : Hp} {p : Addr} {o : HO} (s : SmT PT H H1) (t : GxR.TabG H PT) (h : H p = none) : SmT PT H (upd H1 p o) := by
  have np : PT ≠ p := fun z => by
    obtain ⟨ps, e, _⟩ := t
    rw [z, h] at e
    cases e
  refine ⟨fun b x n e => ?_, ?_⟩
  · rw [upd_ne (ne_of_none e h)]
    exact s.1 _ _ n e
  · obtain ⟨ps, e, q⟩ := s.2
    exact ⟨ps, by rw [upd_ne np]; exact e, q⟩
/-- a def whose code object is known -/
structure FunC (K : PySem.W.Frag) (x qual : Str) (st : Stmt) (f : Addr) (fd : FuncData) (c : Addr) : Prop where
  ex : ∃ (oc : Value) (od : Option Addr) (kV doc pm : Value) (an : Option Addr) (ct : Value) (osl : Array (Option Value)),
    fd = PySem.W.fnOf x qual (defArgs st) (defBody st) (defScope st) .none kV doc pm an (.ref c) ct ∧ K.lookup f = some ⟨oc, od, .func fd, osl⟩ ∧ PySem.W.codeIn K (.ref c) qual = true
  kp : PySem.W.keepIn K (.ref f) = true
section
variable {P : Program} {w : World} {K : PySem.W.Frag} {mg : Str → Option Value} {base : Heap}
theorem FunC.ok {x qual : Str} {st : Stmt} {f c : Addr} {fd : FuncData} {N ps : List Str} {k : Nat} {sp : Sp} (F : FunC K x qual st f fd c) (S : FnScope N ps (defScope st)) (len : ∀ vs H Q E, sp vs H Q E → vs.length = ps.length)
    (hbody : ∀ (A : Around) (outer : List Env) (s : Shared) (H : Hp) (vs : List V) (Q : VK) (E : XK), Room k (A.deeper (PyProof.Rows.envOfC qual (defScope st) s.heap.objs.size f (.ref c))) → sp vs H Q E →
      ∃ t, PSs (cxOf CX0 P w K mg base N qual (defScope st) f (.ref c) A outer s H E).nox (defBody st) t ∧ t { nx := fun _ H' => Q .non H', rt := Q } (start N vs) H) : FnOk P w K mg base CX0 (k + 1) f fd ps sp := by
  rcases F.ex with ⟨_, _, _, _, _, _, _, _, rfl, here, cd⟩
  refine fn_of here cd S len ?_
  intro A outer s H vs Q E hr promise
  exact (hbody A outer s H vs Q E hr promise).imp fun t ht => ⟨ht.1.nox, ht.2⟩
theorem FunC.fun {x qual : Str} {st : Stmt} {f c : Addr} {fd : FuncData} (F : FunC K x qual st f fd c) : Fun K x qual st f fd := by
  obtain ⟨oc, od, kV, doc, pm, an, ct, osl, h1, h2, h3⟩ := F.ex
  exact ⟨⟨oc, od, kV, doc, pm, an, _, ct, osl, h1, h2, h3⟩, F.kp⟩
/-! ### needed -/
def spNeeded (PT : Addr) : Sp := fun vs H Q _ => ∃ (v vw : V) (T : Tr) (r : Str) (wanted : List Str), vs = [v, .str r, vw] ∧ TrAt H v T ∧ GT T ∧ LAt H vw wanted ∧ wanted.length ≤ 1000 ∧ GxR.TabG H PT ∧
  ∀ H' p us, SmT PT H H' → H p = none → H' p = some (.lst us) → AllAt H' us (needed T r wanted) → Q (.ref p) H'
theorem scNeeded : FnScope ["some_tree", "start", "wanted", "found", "first", "second", "_", "beyond"] ["some_tree", "start", "wanted"] (defScope sNeeded) := ⟨rfl, rfl, rfl, by decide +kernel, rfl, by decide +kernel, by decide +kernel⟩
theorem needE_take {T : Tr} {r : Str} {wanted : List Str} {i : Nat} {e : Ed} (h : T.es[i]? = some e) :
    ((T.es.take (i + 1)).filter fun e => wanted.any fun w => decide (w ∈ beyond T e.a e.b r)) = ((T.es.take i).filter fun e => wanted.any fun w => decide (w ∈ beyond T e.a e.b r)) ++ (if (wanted.any fun w => decide (w ∈ beyond T e.a e.b r)) = true then [e] else []) := by
  rw [List.take_add_one, h, List.filter_append]
  congr 1
  show List.filter _ [e] = _
  rw [List.filter_cons]
  rfl
theorem ok_needed {f c PT fB : Addr} {fd fdB : FuncData} (F : FunC K "needed" "needed" sNeeded f fd c) (B : Bi mg) (TB : GxR.TabB base mg c PT)
    (FB : Fun K "side_beyond" "side_beyond" sBeyond fB fdB) (bB : Binds K fdB ["some_tree", "edge", "start"] []) (gB : mg "side_beyond" = some (.ref fB)) (GB : FnOk P w K mg base CX0 4 fB fdB ["some_tree", "edge", "start"] spBeyond) :
    FnOk P w K mg base CX0 5 f fd ["some_tree", "start", "wanted"] (spNeeded PT) := by
  refine F.ok scNeeded (fun vs H Q E h => ?_) (fun A outer s H vs Q E hr h => ?_)
  · obtain ⟨v, vw, T, r, wanted, rfl, _⟩ := h
    rfl
  · obtain ⟨v, vw, T, r, wanted, rfl, hT, G, hWl, hwl, hTab, q⟩ := h
    have hu := hr.units
    refine ⟨_, pss_cons (ps_set (i := 3) scNeeded.nd rfl (Or.inl rfl) (pe_lst pa_nil))
      (pss_cons (ps_for PassesOwn.never rfl (pi_tup (pe_ix ix_tup (pv 0) pe_int (fun _ _ => rfl)))
        (pg_tup rfl (pgs_cons (pg_name (i := 4) scNeeded.nd rfl (Or.inl rfl)) (pgs_cons (pg_name (i := 5) scNeeded.nd rfl (Or.inl rfl)) (pgs_cons (pg_name (i := 6) scNeeded.nd rfl (Or.inl rfl)) pgs_nil))))
        (pss_cons (ps_set (i := 7) scNeeded.nd rfl (Or.inr rfl) (pe_call GB hr (by rfl) gB FB.kp bB .nil pass0 (pa_cons (pv 0) (pa_cons (pe_tup (pa_cons (pv 4) (pa_cons (pv 5) pa_nil))) (pa_cons (pv 1) pa_nil)))))
        (pss_one (ps_if (pt_val (pe_anyL (P := PT) (iy := 7) hr (by rfl) B.any TB rfl ⟨rfl, rfl, by decide +kernel, rfl, rfl, fun y hy e => (by
            rcases List.mem_cons.mp hy with z | hy
            · subst z; cases e
            · rcases List.mem_cons.mp hy with z | hy
              · subst z; cases e
              · rcases List.mem_cons.mp hy with z | hy
                · subst z
                  obtain ⟨c0, hm⟩ := cells_has (names := (defScope sNeeded).names) (n := s.heap.objs.size + 1) (acc := []) (x := "beyond") (by decide +kernel)
                  exact mem_lookup hm
                · cases hy)⟩ (pv 2) rfl rfl (by decide +kernel) rfl (fun _ => rfl)))
          (pss_one (ps_expr (pe_bm PySem.F.plainAttrs_list PySem.F.slot_list_append PySem.F.type_list_append mt_append (pv 3) (pa_cons (pe_tup (pa_cons (pv 4) (pa_cons (pv 5) pa_nil))) pa_nil)))) pss_nil))))
      (pss_one (ps_ret (pv 3)))), ?_⟩
    obtain ⟨p, a, b, rfl, hp, hNs, ⟨pe, es, rfl, he, hE⟩⟩ := id hT
    refine ⟨Nat.zero_le _, fun l hl0 => ?_⟩
    have s0 : SmT PT H (upd H l (.lst [])) := SmT.of hTab (same_up hl0)
    refine ⟨_, rfl, p, _, 1, _, rfl, rfl, SqT.of (same_up hl0 _ _ hp), atI_nat (j := 1) rfl, pe, rfl, ⟨_, SqT.of (same_up hl0 _ _ he)⟩,
      for_tup (K := K) (a := pe) (xs := es) (fun i σ H' => ∃ f4 f5 f6 f7 : Option V, σ = [some (.ref p), some (.str r), some vw, some (.ref l), f4, f5, f6, f7] ∧ SmT PT H H' ∧ ∃ ws, H' l = some (.lst ws) ∧
          AllAt H' ws (((T.es.take i).filter fun e => wanted.any fun w => decide (w ∈ beyond T e.a e.b r)).map fun e => (e.a, e.b)))
        ⟨none, none, none, none, rfl, s0, [], upd_same, by simp [AllAt]⟩ (fun i σ H' _ h => ?_) ?_ ?_⟩
    · obtain ⟨_, _, _, _, _, s, _⟩ := h
      exact SqT.of (s.tup hTab he)
    · rintro i y σ H' hi ⟨f4, f5, f6, f7, rfl, s3, ws, hw, hW⟩
      obtain ⟨e, hei, t, va, vb, vc, rfl, ht, rfl, rfl, rfl⟩ := hE.get hi
      have hem : e ∈ T.es := List.mem_of_getElem? hei
      have hdom := G.dom (show Adj T.es e.a e.b from ⟨e, hem, .inl ⟨rfl, rfl⟩⟩)
      have hln : ws.length ≤ 12 := by
        rw [hW.len, List.length_map]
        refine Nat.le_trans (List.length_filter_le _ _) ?_
        rw [List.length_take]
        have := G.elen
        omega
      refine ⟨t, _, rfl, SqT.of (s3.tup hTab ht), rfl, _, _, rfl, _, _, rfl, _, _, rfl, rfl, ?_⟩
      -- beyond = side_beyond(some_tree, (first, second), start)
      refine ⟨_, rfl, _, rfl, _, rfl, (by show 2 ≤ sizeLine; decide), fun t2 ht2 => ⟨_, rfl, ?_⟩⟩
      have s4 : Same H' (upd H' t2 (.tup [.str e.a, .str e.b])) := same_up ht2
      refine ⟨.ref p, .ref t2, T, (e.a, e.b), r, rfl, (hT.keep (s3.kt hTab)).keep (KT.of s4), G, ⟨t2, _, _, rfl, upd_same, rfl, rfl⟩, hdom.1, hdom.2, fun H5 p5 vs5 s5 hp50 hp5 hA5 => ?_⟩
      have s45 : Same H' H5 := s4.trans s5
      have s5T : SmT PT H H5 := s3.trans (SmT.of s3.2 s45)
      refine ⟨_, rfl, wanted, beyond T e.a e.b r, .ref p5, s5T.lat hTab hWl, rfl, ⟨p5, vs5, rfl, hp5, hA5⟩, s5T.2, fun H6 hTb => ⟨_, rfl, ?_⟩⟩
      have s6 : SmT PT H H6 := s5T.trans (SmT.tabbed hTb)
      have hw5 : H5 l = some (.lst ws) := s45 _ _ hw
      have hw6 : H6 l = some (.lst ws) := (SmT.tabbed hTb).lst s5T.2 hw5
      have hW6 := (hW.keep (KT.of s45)).keep ((SmT.tabbed hTb).kt s5T.2)
      refine ite2 (fun h => ?_) (fun h => ?_)
      · refine ⟨_, rfl, .inl ⟨rfl, _, SqL.of hw6⟩, _, rfl, _, rfl, (by show 2 ≤ sizeLine; decide), fun t7 ht7 => ?_⟩
        have lt7 : l ≠ t7 := ne_of_none hw6 ht7
        refine ⟨l, _, _, rfl, rfl, (by rw [upd_ne lt7]; exact hw6), Nat.lt_of_le_of_lt hln (by decide), ?_⟩
        refine ⟨_, _, _, _, rfl, (s6.trans (SmT.of s6.2 (same_up ht7))).grow hTab hl0, _, upd_same, ?_⟩
        rw [needE_take hei, if_pos h, List.map_append]
        have k2 : KT H6 (upd (upd H6 t7 (.tup [.str e.a, .str e.b])) l (.lst (ws ++ [.ref t7]))) := (KT.new ht7).trans (KT.lst (by rw [upd_ne lt7]; exact hw6))
        exact (hW6.keep k2).app (AllAt.one ⟨t7, _, _, rfl, by rw [upd_ne lt7.symm, upd_same], rfl, rfl⟩)
      · refine ⟨_, _, _, _, rfl, s6, ws, hw6, ?_⟩
        rw [needE_take hei, if_neg h, List.append_nil]
        exact hW6
    · rintro σ H' ⟨f4, f5, f6, f7, rfl, s3, ws, hw, hW⟩
      have hlE := hE.len
      rw [hlE, List.take_length] at hW
      exact ⟨_, rfl, q H' l ws s3 hl0 hw hW⟩
end
end W2
-- text WA
set_option Elab.async false
set_option linter.all false
set_option maxRecDepth 100000
/-! round_of, end_of, trip_of, round_reason, trip_reason; own work -/
namespace W2
open PySem PySem.W L2 W0 W1 TM
def NewT {α : Type} [DecidableEq α] [Datum α] [Fl α] (PT : Addr) (H : Hp) (res : List α) (Q : VK) : Prop := ∀ H' p us, SmT PT H H' → H p = none → H' p = some (.lst us) → AllAt H' us res → Q (.ref p) H'
/-- what these five take -/
structure Ask (PT : Addr) (H : Hp) (vs : List V) (T : Tr) (r : Str) (wanted : List Str) : Prop where
  vs : ∃ v vw, vs = [v, .str r, vw] ∧ TrAt H v T ∧ LAt H vw wanted
  gt : GT T
  hr : r ∈ T.names
  hw : ∀ w ∈ wanted, w ∈ T.names
  len : wanted.length ≤ 1000
  tab : GxR.TabG H PT
section
variable {P : Program} {w : World} {K : PySem.W.Frag} {mg : Str → Option Value} {base : Heap}
/-! ### round_of -/
def spRound (PT : Addr) : Sp := fun vs H Q _ => ∃ (T : Tr) (r : Str) (wanted : List Str), Ask PT H vs T r wanted ∧ NewT PT H (roundOf T r wanted) Q
theorem scRound : FnScope ["some_tree", "start", "wanted"] ["some_tree", "start", "wanted"] (defScope sRound) := ⟨rfl, rfl, rfl, by decide +kernel, rfl, by decide +kernel, by decide +kernel⟩
theorem Ask.len3 {PT : Addr} {H : Hp} {vs : List V} {T : Tr} {r : Str} {wanted : List Str} (A : Ask PT H vs T r wanted) : vs.length = 3 := by
  obtain ⟨v, vw, rfl, _⟩ := A.vs
  rfl
theorem ok_round {f fW fD PT : Addr} {fd fdW fdD : FuncData} (F : Fun K "round_of" "round_of" sRound f fd)
    (FW : Fun K "walk_from" "walk_from" sWalk fW fdW) (bW : Binds K fdW ["some_tree", "edges", "name", "came", "way"] []) (gW : mg "walk_from" = some (.ref fW)) (GW : FnOk P w K mg base CX0 16 fW fdW ["some_tree", "edges", "name", "came", "way"] (spWalk 14))
    (FD : Fun K "needed" "needed" sNeeded fD fdD) (bD : Binds K fdD ["some_tree", "start", "wanted"] []) (gD : mg "needed" = some (.ref fD)) (GD : FnOk P w K mg base CX0 5 fD fdD ["some_tree", "start", "wanted"] (spNeeded PT)) :
    FnOk P w K mg base CX0 17 f fd ["some_tree", "start", "wanted"] (spRound PT) := by
  refine F.ok scRound (fun vs H Q E h => ?_) (fun cdv A outer s H vs Q E hr h => ?_)
  · obtain ⟨T, r, wanted, h, _⟩ := h
    exact h.len3
  · obtain ⟨T, r, wanted, ⟨⟨v, vw, rfl, hT, hWl⟩, G, hrr, hww, hwl, hTab⟩, q⟩ := h
    have hr5 : Room 5 _ := hr.mono (by decide)
    refine ⟨_, pss_one (ps_ret (pe_call GW hr (by rfl) gW FW.kp bW .nil pass0 (pa_cons (pv 0) (pa_cons (pe_call GD hr5 (by rfl) gD FD.kp bD .nil pass0 (pa_cons (pv 0) (pa_cons (pv 1) (pa_cons (pv 2) pa_nil)))) (pa_cons (pv 1) (pa_cons pe_non (pa_cons (pe_lst pa_nil) pa_nil))))))), ?_⟩
    have fine := G.fine hrr hww
    refine ⟨v, rfl, v, rfl, _, rfl, vw, rfl, v, vw, T, r, wanted, rfl, hT, G, hWl, hwl, hTab, fun H2 p us s2 hp0 hp hA => ?_⟩
    refine ⟨_, rfl, Nat.zero_le _, fun l hl => ?_⟩
    have s3 : Same H2 (upd H2 l (.lst [])) := same_up hl
    have s3T := s2.trans (SmT.of s2.2 s3)
    refine ⟨v, .ref p, .ref l, T, needed T r wanted, r, none, [], roundOf T r wanted, rfl, hT.keep (s3T.kt hTab), GT.el G, ⟨p, us, rfl, s3 _ _ hp, hA.keep (KT.of s3)⟩, ⟨l, [], rfl, upd_same, True.intro⟩, Nat.zero_le _, fine.round, fun H4 p4 vs4 s4 hp40 hp4 hA4 => ?_⟩
    exact q H4 p4 vs4 (s3T.trans (SmT.of s3T.2 s4)) (s3T.free hTab hp40) hp4 hA4
/-! ### end_of -/
def spEnd : Sp := fun vs H Q _ => ∃ (v vw : V) (T : Tr) (r : Str) (wanted : List Str), vs = [v, .str r, vw] ∧ TrAt H v T ∧ GT T ∧ r ∈ T.names ∧ (∀ w ∈ wanted, w ∈ T.names) ∧ LAt H vw wanted ∧ wanted.length ≤ 1000 ∧ ∀ H', Same H H' → Q (.str (endOf T.es r wanted)) H'
theorem scEnd : FnScope ["some_tree", "start", "wanted", "end", "far", "name"] ["some_tree", "start", "wanted"] (defScope sEnd) := ⟨rfl, rfl, rfl, by decide +kernel, rfl, by decide +kernel, by decide +kernel⟩
theorem ok_end {f fL : Addr} {fd fdL : FuncData} (F : Fun K "end_of" "end_of" sEnd f fd) (B : Bi mg)
    (FL : Fun K "distance" "distance" sDist fL fdL) (bL : Binds K fdL ["some_tree", "first", "second"] []) (gL : mg "distance" = some (.ref fL)) (GL : FnOk P w K mg base CX0 3 fL fdL ["some_tree", "first", "second"] spDist) :
    FnOk P w K mg base CX0 4 f fd ["some_tree", "start", "wanted"] spEnd := by
  refine F.ok scEnd (fun vs H Q E h => ?_) (fun cdv A outer s H vs Q E hr h => ?_)
  · obtain ⟨v, vw, T, r, wanted, rfl, _⟩ := h
    rfl
  · obtain ⟨v, vw, T, r, wanted, rfl, hT, G, hrr, hww, hWl, hwl, q⟩ := h
    have hu := hr.units
    refine ⟨_, pss_cons (ps_set (i := 3) scEnd.nd rfl (Or.inl rfl) (pv 1))
      (pss_cons (ps_set (i := 4) scEnd.nd rfl (Or.inl rfl) pe_int)
      (pss_cons (ps_for PassesOwn.never rfl (pi_list (pe_callB (cr_sortF Str hu) (by rfl) B.sorted (by decide +kernel) (pa_cons (pv 2) pa_nil))) (pg_name (i := 5) scEnd.nd rfl (Or.inl rfl))
        (pss_one (ps_if (pt_cmpR op_gt (pe_call GL hr (by rfl) gL FL.kp bL .nil pass0 (pa_cons (pv 0) (pa_cons (pv 1) (pa_cons (pv 5) pa_nil)))) (pv 4) (nomark _))
          (pss_cons (ps_set (i := 4) scEnd.nd rfl (Or.inl rfl) (pe_call GL hr (by rfl) gL FL.kp bL .nil pass0 (pa_cons (pv 0) (pa_cons (pv 1) (pa_cons (pv 5) pa_nil)))))
          (pss_one (ps_set (i := 3) scEnd.nd rfl (Or.inl rfl) (pv 5)))) pss_nil)))
      (pss_one (ps_ret (pv 3))))), ?_⟩
    refine ⟨_, rfl, _, rfl, vw, wanted, rfl, hWl, (by show 0 ≤ 30; decide), hwl, sortOk_str, fun D ws hD hW => ⟨D, rfl, ⟨_, SqL.of upd_same⟩, ?_⟩⟩
    have s1 : Same H (upd H D (.lst ws)) := same_up hD
    have hDe : (upd H D (.lst ws)) D = some (.lst ws) := upd_same
    generalize hH1 : upd H D (.lst ws) = H1 at s1 hDe ⊢
    obtain rfl := hW.strs
    have hml : ((srtF wanted).map V.str).length = (srtS wanted).length := List.length_map ..
    refine for_list (K := K) (a := D) (xs := (srtF wanted).map V.str) (fun i σ H' => ∃ f5 : Option V, σ = [some v, some (.str r), some vw, some (.str (((srtS wanted).take i).foldl (endStep T.es r) (r, 0)).1), some (.int (((srtS wanted).take i).foldl (endStep T.es r) (r, 0)).2), f5] ∧ Same H1 H')
      ⟨none, rfl, Same.refl _⟩ (fun i σ H' _ h => ?_) ?_ ?_
    · obtain ⟨_, _, s2⟩ := h
      exact SqL.of (s2 _ _ hDe)
    · rintro i y σ H' hi ⟨f5, rfl, s2⟩
      rw [List.getElem?_map] at hi
      cases hx : (srtF wanted)[i]? with
      | none => rw [hx] at hi; cases hi
      | some x =>
      rw [hx] at hi
      obtain rfl := Option.some.inj hi
      have hxn : x ∈ T.names := hww x ((srtS_perm wanted).mem_iff.mp (List.mem_of_getElem? hx))
      rw [fold_take (endStep T.es r) (r, 0) (show (srtS wanted)[i]? = some x from hx)]
      generalize ((srtS wanted).take i).foldl (endStep T.es r) (r, 0) = st
      refine ⟨v, rfl, _, rfl, _, rfl, v, T, r, x, rfl, hT.keep (KT.of (s1.trans s2)), G, hrr, hxn, fun H3 s3 => ?_⟩
      refine ⟨_, rfl, _, _, rfl, rfl, _, rfl, ?_⟩
      refine ite2 (fun h => ?_) (fun h => ?_)
      · have h' : st.2 < dist T.es r x := of_decide_eq_true h
        refine ⟨v, rfl, _, rfl, _, rfl, v, T, r, x, rfl, hT.keep (KT.of ((s1.trans s2).trans s3)), G, hrr, hxn, fun H4 s4 => ⟨_, rfl, some (.str x), ?_, (s2.trans s3).trans s4⟩⟩
        unfold endStep
        rw [if_pos h']
        rfl
      · have h' : ¬ st.2 < dist T.es r x := fun z => h (decide_eq_true z)
        refine ⟨some (.str x), ?_, s2.trans s3⟩
        unfold endStep
        rw [if_neg h']
        rfl
    · rintro σ H' ⟨f5, rfl, s2⟩
      rw [hml, List.take_length]
      exact ⟨_, rfl, q _ (s1.trans s2)⟩
/-! ### trip_of -/
def spTrip (PT : Addr) : Sp := fun vs H Q _ => ∃ (T : Tr) (r : Str) (wanted : List Str), Ask PT H vs T r wanted ∧ NewT PT H (tripOf T r wanted) Q
theorem scTrip : FnScope ["some_tree", "start", "wanted", "way"] ["some_tree", "start", "wanted"] (defScope sTrip) := ⟨rfl, rfl, rfl, by decide +kernel, rfl, by decide +kernel, by decide +kernel⟩
theorem ok_trip {f fW fD fP fE PT : Addr} {fd fdW fdD fdP fdE : FuncData} (F : Fun K "trip_of" "trip_of" sTrip f fd)
    (FW : Fun K "walk_from" "walk_from" sWalk fW fdW) (bW : Binds K fdW ["some_tree", "edges", "name", "came", "way"] []) (gW : mg "walk_from" = some (.ref fW)) (GW : FnOk P w K mg base CX0 16 fW fdW ["some_tree", "edges", "name", "came", "way"] (spWalk 14))
    (FD : Fun K "needed" "needed" sNeeded fD fdD) (bD : Binds K fdD ["some_tree", "start", "wanted"] []) (gD : mg "needed" = some (.ref fD)) (GD : FnOk P w K mg base CX0 5 fD fdD ["some_tree", "start", "wanted"] (spNeeded PT))
    (FP : Fun K "path" "path" sPath fP fdP) (bP : Binds K fdP ["some_tree", "first", "second"] []) (gP : mg "path" = some (.ref fP)) (GP : FnOk P w K mg base CX0 2 fP fdP ["some_tree", "first", "second"] spPath)
    (FE : Fun K "end_of" "end_of" sEnd fE fdE) (bE : Binds K fdE ["some_tree", "start", "wanted"] []) (gE : mg "end_of" = some (.ref fE)) (GE : FnOk P w K mg base CX0 4 fE fdE ["some_tree", "start", "wanted"] spEnd) :
    FnOk P w K mg base CX0 17 f fd ["some_tree", "start", "wanted"] (spTrip PT) := by
  refine F.ok scTrip (fun vs H Q E h => ?_) (fun cdv A outer s H vs Q E hr h => ?_)
  · obtain ⟨T, r, wanted, h, _⟩ := h
    exact h.len3
  · obtain ⟨T, r, wanted, ⟨⟨v, vw, rfl, hT, hWl⟩, G, hrr, hww, hwl, hTab⟩, q⟩ := h
    have hr5 : Room 5 _ := hr.mono (by decide)
    have hr2 : Room 2 _ := hr.mono (by decide)
    have hr4 : Room 4 _ := hr.mono (by decide)
    refine ⟨_, pss_cons (ps_set (i := 3) scTrip.nd rfl (Or.inl rfl) (pe_call GP hr2 (by rfl) gP FP.kp bP .nil pass0 (pa_cons (pv 0) (pa_cons (pv 1) (pa_cons (pe_call GE hr4 (by rfl) gE FE.kp bE .nil pass0 (pa_cons (pv 0) (pa_cons (pv 1) (pa_cons (pv 2) pa_nil)))) pa_nil)))))
      (pss_one (ps_ret (pe_call GW hr (by rfl) gW FW.kp bW .nil pass0 (pa_cons (pv 0) (pa_cons (pe_call GD hr5 (by rfl) gD FD.kp bD .nil pass0 (pa_cons (pv 0) (pa_cons (pv 1) (pa_cons (pv 2) pa_nil)))) (pa_cons (pv 1) (pa_cons pe_non (pa_cons (pv 3) pa_nil)))))))), ?_⟩
    have fine := G.fine hrr hww
    obtain ⟨hO, hsp⟩ := G.pthO hrr fine.ein
    have hsh := G.short hsp hrr
    refine ⟨v, rfl, _, rfl, v, rfl, _, rfl, vw, rfl, v, vw, T, r, wanted, rfl, hT, G, hrr, hww, hWl, hwl, fun H1 s1 => ?_⟩
    refine ⟨v, T, r, _, _, rfl, hT.keep (KT.of s1), GT.el G, hO, fun H2 pw ws s2 hpw0 hpw hW => ?_⟩
    have s12 : Same H H2 := s1.trans s2
    refine ⟨v, rfl, v, rfl, _, rfl, vw, rfl, v, vw, T, r, wanted, rfl, hT.keep (KT.of s12), G, hWl.keep s12, hwl, tabG_same hTab s12, fun H3 p us s3 hp0 hp hA => ?_⟩
    refine ⟨_, rfl, _, rfl, ?_⟩
    have hT2 := tabG_same hTab s12
    have s3T : SmT PT H H3 := (SmT.of hTab s12).trans s3
    refine ⟨v, .ref p, .ref pw, T, needed T r wanted, r, none, pth T.es r (endOf T.es r wanted), tripOf T r wanted, rfl, hT.keep (s3T.kt hTab), GT.el G, ⟨p, us, rfl, hp, hA⟩, s3.lat hT2 ⟨pw, ws, rfl, hpw, hW⟩, Nat.le_trans hsh (by decide), fine.trip, fun H4 p4 vs4 s4 hp40 hp4 hA4 => ?_⟩
    exact q H4 p4 vs4 (s3T.trans (SmT.of s3T.2 s4)) (s3T.free hTab hp40) hp4 hA4
/-! ### round_reason -/
def spReason (PT : Addr) : Sp := fun vs H Q _ => ∃ (T : Tr) (r : Str) (wanted : List Str), Ask PT H vs T r wanted ∧ NewT PT H (reason T r wanted) Q
theorem scReason : FnScope ["some_tree", "start", "wanted", "found", "edge", "beyond", "name"] ["some_tree", "start", "wanted"] (defScope sReason) := ⟨rfl, rfl, rfl, by decide +kernel, rfl, by decide +kernel, by decide +kernel⟩
theorem needed_len {T : Tr} (G : GT T) (r : Str) (wanted : List Str) : (needed T r wanted).length ≤ 12 := by
  unfold needed needE
  rw [List.length_map]
  exact Nat.le_trans (List.length_filter_le _ _) G.elen
theorem ok_reason {f fD fB PT : Addr} {fd fdD fdB : FuncData} (F : Fun K "round_reason" "round_reason" sReason f fd) (B : Bi mg)
    (FD : Fun K "needed" "needed" sNeeded fD fdD) (bD : Binds K fdD ["some_tree", "start", "wanted"] []) (gD : mg "needed" = some (.ref fD)) (GD : FnOk P w K mg base CX0 5 fD fdD ["some_tree", "start", "wanted"] (spNeeded PT))
    (FB : Fun K "side_beyond" "side_beyond" sBeyond fB fdB) (bB : Binds K fdB ["some_tree", "edge", "start"] []) (gB : mg "side_beyond" = some (.ref fB)) (GB : FnOk P w K mg base CX0 4 fB fdB ["some_tree", "edge", "start"] spBeyond) :
    FnOk P w K mg base CX0 6 f fd ["some_tree", "start", "wanted"] (spReason PT) := by
  refine F.ok scReason (fun vs H Q E h => ?_) (fun cdv A outer s H vs Q E hr h => ?_)
  · obtain ⟨T, r, wanted, h, _⟩ := h
    exact h.len3
  · obtain ⟨T, r, wanted, ⟨⟨v, vw, rfl, hT, hWl⟩, G, hrr, hww, hwl, hTab⟩, q⟩ := h
    have hr4 : Room 4 _ := hr.mono (by decide)
    have hu := hr.units
    refine ⟨_, pss_cons (ps_set (i := 3) scReason.nd rfl (Or.inl rfl) (pe_lst pa_nil))
      (pss_cons (ps_for PassesOwn.never rfl (pi_list (pe_call GD hr (by rfl) gD FD.kp bD .nil pass0 (pa_cons (pv 0) (pa_cons (pv 1) (pa_cons (pv 2) pa_nil))))) (pg_name (i := 4) scReason.nd rfl (Or.inl rfl))
        (pss_cons (ps_set (i := 5) scReason.nd rfl (Or.inr rfl) (pe_call GB hr4 (by rfl) gB FB.kp bB .nil pass0 (pa_cons (pv 0) (pa_cons (pv 4) (pa_cons (pv 1) pa_nil)))))
        (pss_one (ps_expr (pe_bm PySem.F.plainAttrs_list PySem.F.slot_list_append PySem.F.type_list_append mt_append (pv 3) (pa_cons (pe_tup (pa_cons (pv 4) (pa_cons
          (pe_callB (cr_minS rfl hu) (by rfl) B.min (by decide +kernel) (pa_cons (pe_lc (own := [("name", 6)]) (g := gName 6) (tt := tTest (tOp (rInF Str) (tVar 6) (tVar 5))) (te := tVar 6) rfl scReason.nd (pi_list (pv 2))
            (blkOk_by (N := ["some_tree", "start", "wanted", "found", "edge", "beyond", "name"]) (sc := defScope sReason) (by decide +kernel))
            (fun _ _ _ _ _ => pg_name (i := 6) scReason.nd rfl (Or.inl rfl)) (fun _ _ _ _ _ => pts_one (pt_cmpR (op_inF Str hu) (pv 6) (pv 5) rfl)) (fun _ _ _ _ _ => pv 6)) pa_nil)) pa_nil))) pa_nil))))))
      (pss_one (ps_ret (pv 3)))), ?_⟩
    refine ⟨Nat.zero_le _, fun l hl0 => ?_⟩
    have s0 : Same H (upd H l (.lst [])) := same_up hl0
    have hl1 : (upd H l (.lst [])) l = some (.lst []) := upd_same
    generalize hH1 : upd H l (.lst []) = H1 at s0 hl1 ⊢
    have hT1 := tabG_same hTab s0
    have s0T : SmT PT H H1 := SmT.of hTab s0
    refine ⟨v, rfl, _, rfl, vw, rfl, v, vw, T, r, wanted, rfl, hT.keep (KT.of s0), G, hWl.keep s0, hwl, hT1, fun H2 pn us s2 hpn0 hpn hA => ⟨pn, rfl, ⟨_, SqL.of hpn⟩, ?_⟩⟩
    have lpn : l ≠ pn := fun z => by rw [← z, hl1] at hpn0; cases hpn0
    have s02 : SmT PT H H2 := s0T.trans s2
    have hl2 : H2 l = some (.lst []) := s2.lst hT1 hl1
    refine for_list (K := K) (a := pn) (xs := us) (fun i σ H' => ∃ f4 f5 : Option V, σ = [some v, some (.str r), some vw, some (.ref l), f4, f5, none] ∧ SmT PT H H' ∧ KT H2 H' ∧ H' pn = some (.lst us) ∧ ∃ ws, H' l = some (.lst ws) ∧
        AllAt H' ws (((needed T r wanted).take i).map fun k => (k, minS (inBey T r k wanted))))
      ⟨none, none, rfl, s02, KT.refl _, hpn, [], hl2, by simp [AllAt]⟩ (fun i σ H' _ h => ?_) ?_ ?_
    · obtain ⟨_, _, _, _, _, h, _⟩ := h
      exact SqL.of h
    · rintro i ve σ H' hi ⟨f4, f5, rfl, s3, k3, hp3, ws, hw, hW⟩
      obtain ⟨k, hki, hat⟩ := hA.get hi
      have hkm : k ∈ needed T r wanted := List.mem_of_getElem? hki
      obtain ⟨e, hem, _, hek⟩ := mem_needed.mp hkm
      have hdom := G.dom (show Adj T.es e.a e.b from ⟨e, hem, .inl ⟨rfl, rfl⟩⟩)
      have hd1 : k.1 ∈ T.names := by rw [← hek]; exact hdom.1
      have hd2 : k.2 ∈ T.names := by rw [← hek]; exact hdom.2
      have hat3 := Fl.keep k3 hat
      have hln : ws.length ≤ 12 := by
        rw [hW.len, List.length_map, List.length_take]
        have := needed_len G r wanted
        omega
      -- beyond = side_beyond(some_tree, edge, start)
      refine ⟨v, rfl, ve, rfl, _, rfl, v, ve, T, k, r, rfl, hT.keep (s3.kt hTab), G, hat3, hd1, hd2, fun H5 p5 vs5 s5 hp50 hp5 hA5 => ?_⟩
      have s5T : SmT PT H H5 := s3.trans (SmT.of s3.2 s5)
      -- found.append((edge, min([..])))
      have hw5 : H5 l = some (.lst ws) := s5 _ _ hw
      obtain ⟨pv', vws, rfl, hvw, hVW⟩ := s5T.lat hTab hWl
      refine ⟨_, rfl, .inl ⟨rfl, _, SqL.of hw5⟩, ve, rfl, _, rfl, pv', rfl, ⟨_, SqL.of hvw⟩, fun D hD => ?_⟩
      refine lc_fmL (K := K) (f := fun x : Str => if decide (x ∈ beyond T k.1 k.2 r) = true then some x else none) (SqL.of hvw) hVW hwl hD (fun x vp H6 Qy Qn hx s6 hatx hy hn => ?_) fun H6 ws6 s6 e6 hw6 => ?_
      · obtain rfl := hatx
        refine ⟨rfl, _, rfl, _, rfl, x, beyond T k.1 k.2 r, rfl, ⟨p5, vs5, rfl, s6 _ _ hp5, hA5.keep (KT.of s6)⟩, (by show 0 ≤ 30; decide), _, rfl, ?_⟩
        refine ite2 (fun h => ?_) (fun h => ?_)
        · exact ⟨_, rfl, hy _ _ x (by rw [if_pos h]) (Same.refl _) rfl⟩
        · exact hn _ (by rw [if_neg h]) (Same.refl _)
      · rw [fm_filter] at hw6
        have hne := inBey_ne (T := T) (r := r) (wanted := wanted) hkm
        have hw6' : AllAt H6 ws6 (inBey T r k wanted) := hw6
        cases hib : inBey T r k wanted with
        | nil => exact absurd hib hne
        | cons y0 ys0 =>
        rw [hib] at hw6'
        refine ⟨.ref D, y0, ys0, rfl, ⟨D, ws6, rfl, e6, hw6'⟩, (by show 2 ≤ sizeLine; decide), fun t7 ht7 => ?_⟩
        have hw66 : H6 l = some (.lst ws) := s6 _ _ hw5
        have lt7 : l ≠ t7 := ne_of_none hw66 ht7
        have s6T : SmT PT H H6 := s5T.trans (SmT.of s5T.2 s6)
        refine ⟨l, _, _, rfl, rfl, (by rw [upd_ne lt7]; exact hw66), Nat.lt_of_le_of_lt hln (by decide), ?_⟩
        have kk : KT H' (upd (upd H6 t7 (.tup [ve, .str (minOf y0 ys0)])) l (.lst (ws ++ [.ref t7]))) := ((KT.of s5).trans (KT.of s6)).trans ((KT.new ht7).trans (KT.lst (by rw [upd_ne lt7]; exact hw66)))
        have hpn6 : H6 pn = some (.lst us) := s6 _ _ (s5 _ _ hp3)
        refine ⟨_, _, rfl, (s6T.trans (SmT.of s6T.2 (same_up ht7))).grow hTab hl0, k3.trans kk, ?_, _, upd_same, ?_⟩
        · rw [upd_ne lpn.symm, upd_ne (ne_of_none hpn6 ht7)]
          exact hpn6
        · rw [List.take_add_one, hki, List.map_append]
          refine (hW.keep kk).app (AllAt.one ⟨t7, _, _, rfl, by rw [upd_ne lt7.symm, upd_same], Fl.keep kk hat3, ?_⟩)
          show V.str (minOf y0 ys0) = V.str (minS (inBey T r k wanted))
          rw [hib]
          rfl
    · rintro σ H' ⟨f4, f5, rfl, s3, k3, hp3, ws, hw, hW⟩
      rw [hA.len, List.take_length] at hW
      exact ⟨_, rfl, q H' l ws s3 hl0 hw hW⟩
/-! ### trip_reason -/
def spTripR (PT : Addr) : Sp := fun vs H Q _ => ∃ (T : Tr) (r : Str) (wanted : List Str), Ask PT H vs T r wanted ∧
  ∀ H' p p1 us, SmT PT H H' → H' p = some (.tup [.ref p1, .str (endOf T.es r wanted)]) → H p1 = none → H' p1 = some (.lst us) → AllAt H' us (reason T r wanted) → Q (.ref p) H'
theorem scTripR : FnScope ["some_tree", "start", "wanted"] ["some_tree", "start", "wanted"] (defScope sTripR) := ⟨rfl, rfl, rfl, by decide +kernel, rfl, by decide +kernel, by decide +kernel⟩
theorem ok_tripR {f fR fE PT : Addr} {fd fdR fdE : FuncData} (F : Fun K "trip_reason" "trip_reason" sTripR f fd)
    (FR : Fun K "round_reason" "round_reason" sReason fR fdR) (bR : Binds K fdR ["some_tree", "start", "wanted"] []) (gR : mg "round_reason" = some (.ref fR)) (GR : FnOk P w K mg base CX0 6 fR fdR ["some_tree", "start", "wanted"] (spReason PT))
    (FE : Fun K "end_of" "end_of" sEnd fE fdE) (bE : Binds K fdE ["some_tree", "start", "wanted"] []) (gE : mg "end_of" = some (.ref fE)) (GE : FnOk P w K mg base CX0 4 fE fdE ["some_tree", "start", "wanted"] spEnd) :
    FnOk P w K mg base CX0 7 f fd ["some_tree", "start", "wanted"] (spTripR PT) := by
  refine F.ok scTripR (fun vs H Q E h => ?_) (fun cdv A outer s H vs Q E hr h => ?_)
  · obtain ⟨T, r, wanted, h, _⟩ := h
    exact h.len3
  · obtain ⟨T, r, wanted, A0, q⟩ := h
    obtain ⟨⟨v, vw, rfl, hT, hWl⟩, G, hrr, hww, hwl, hTab⟩ := id A0
    have hr4 : Room 4 _ := hr.mono (by decide)
    refine ⟨_, pss_one (ps_ret (pe_tup (pa_cons (pe_call GR hr (by rfl) gR FR.kp bR .nil pass0 (pa_cons (pv 0) (pa_cons (pv 1) (pa_cons (pv 2) pa_nil)))) (pa_cons (pe_call GE hr4 (by rfl) gE FE.kp bE .nil pass0 (pa_cons (pv 0) (pa_cons (pv 1) (pa_cons (pv 2) pa_nil)))) pa_nil)))), ?_⟩
    refine ⟨v, rfl, _, rfl, vw, rfl, T, r, wanted, A0, fun H1 p us s1 hp0 hp hA => ?_⟩
    refine ⟨v, rfl, _, rfl, vw, rfl, v, vw, T, r, wanted, rfl, hT.keep (s1.kt hTab), G, hrr, hww, s1.lat hTab hWl, hwl, fun H2 s2 => ⟨(by show 2 ≤ sizeLine; decide), fun t ht => ?_⟩⟩
    have s2T := s1.trans (SmT.of s1.2 s2)
    refine q _ t p us (s2T.trans (SmT.of s2T.2 (same_up ht))) upd_same hp0 ?_ ((hA.keep (KT.of s2)).keep (KT.new ht))
    rw [upd_ne (ne_of_none (s2 _ _ hp) ht)]
    exact s2 _ _ hp
end
end W2
-- text WB
set_option Elab.async false
set_option linter.all false
set_option maxRecDepth 100000
/-! the law's own small defs; own work -/
namespace W2
open PySem PySem.W L2 W0 W1 TM
section
variable {P : Program} {w : World} {K : PySem.W.Frag} {mg : Str → Option Value} {base : Heap}
/-! ### _law_names -/
theorem scLNames : FnScope ["_law_tree_here", "_law_name", "_law_weight"] ["_law_tree_here"] (defScope sLNames) := ⟨rfl, rfl, rfl, by decide +kernel, rfl, by decide +kernel, by decide +kernel⟩
theorem ok_lnames {f : Addr} {fd : FuncData} (F : Fun K "_law_names" "_law_names" sLNames f fd) : FnOk P w K mg base CX0 1 f fd ["_law_tree_here"] spNames := by
  refine F.ok scLNames (fun vs H Q E h => ?_) (fun cdv A outer s H vs Q E hr h => ?_)
  · obtain ⟨v, T, rfl, _⟩ := h
    rfl
  · obtain ⟨v, T, rfl, ⟨p, a, b, rfl, hp, ⟨pn, ns, rfl, hn, hN⟩, _⟩, hl, q⟩ := h
    refine ⟨_, pss_one (ps_ret (pe_lc (own := [("_law_name", 1), ("_law_weight", 2)]) (g := gTup K 2 (gCons (gName 1) (gCons (gName 2) gNil))) rfl scLNames.nd (pi_tup (pe_ix ix_tup (pv 0) pe_int (fun _ _ => rfl)))
      (blkOk_by (N := ["_law_tree_here", "_law_name", "_law_weight"]) (sc := defScope sLNames) (by decide +kernel))
      (fun _ _ _ _ _ => pg_tup (n := 2) rfl (pgs_cons (pg_name (i := 1) scLNames.nd rfl (Or.inl rfl) (Or.inr rfl)) (pgs_cons (pg_name (i := 2) scLNames.nd rfl (Or.inl rfl) (Or.inr rfl)) pgs_nil)))
      (fun _ _ _ _ _ => pts_nil) (fun _ _ _ _ _ => pv 1))), ?_⟩
    refine ⟨_, rfl, p, _, 0, _, rfl, rfl, SqT.of hp, atI_nat (j := 0) rfl, pn, rfl, ⟨_, SqT.of hn⟩, fun D hD => ?_⟩
    refine lc_fmT (K := K) (f := fun x : Str × Int => some x.1) hn hN hl hD (fun x v H2 Qy Qn _ s hat hy _ => ?_) fun H2 ws s e hw => ?_
    · obtain ⟨t, va, vb, rfl, ht, rfl, rfl⟩ := hat
      exact ⟨t, _, rfl, SqT.of ht, rfl, _, _, rfl, _, _, rfl, rfl, rfl, _, rfl, hy _ _ _ rfl (Same.refl _) rfl⟩
    · refine q _ D ws s hD e ?_
      rw [fm_map] at hw
      exact hw
/-! ### _law_cell -/
def spCell (K : PySem.W.Frag) : Sp := fun vs H Q _ => ∃ (a : Addr) (ns : List Int) (k : Nat), vs = [.ref a, .int k] ∧ SqL K H a (ns.map V.int) ∧ ∀ z : Int, Q (.int z) H
theorem scCell : FnScope ["_law_script", "_law_k"] ["_law_script", "_law_k"] (defScope sCell) := ⟨rfl, rfl, rfl, by decide +kernel, rfl, by decide +kernel, by decide +kernel⟩
theorem ok_cell {f : Addr} {fd : FuncData} (F : Fun K "_law_cell" "_law_cell" sCell f fd) (B : Bi mg) : FnOk P w K mg base CX0 1 f fd ["_law_script", "_law_k"] (spCell K) := by
  refine F.ok scCell (fun vs H Q E h => ?_) (fun cdv A outer s H vs Q E hr h => ?_)
  · obtain ⟨a, ns, k, rfl, _⟩ := h
    rfl
  · obtain ⟨a, ns, k, rfl, hS, q⟩ := h
    refine ⟨_, pss_cons (ps_if (pt_cmpR op_lt (pv 1) (pe_callB call_len_seq (by rfl) B.len PySem.boot_len (pa_cons (pv 0) pa_nil)) (nomark _)) (pss_one (ps_ret (pe_ix ix_list (pv 0) (pv 1) (fun _ _ => rfl)))) pss_nil)
      (pss_one (ps_ret pe_int)), ?_⟩
    refine ⟨_, rfl, _, rfl, a, _, rfl, .inl hS, _, _, rfl, rfl, _, rfl, ?_⟩
    refine ite2 (fun h => ?_) (fun h => ?_)
    · have h' := of_decide_eq_true h
      rw [List.length_map] at h'
      have hk : k < ns.length := by omega
      refine ⟨_, rfl, _, rfl, a, _, _, _, rfl, rfl, hS, atI_nat (j := k) (v := .int ns[k]) (by rw [List.getElem?_map, List.getElem?_eq_getElem hk]; rfl), ?_⟩
      exact q _
    · exact q _
/-! ### _law_draw -/
def Drawn (ds ss : List Int) : Prop := ds.length = ss.length ∧ ∀ (i : Nat) (d s : Int), ds[i]? = some d → ss[i]? = some s → 0 ≤ d ∧ d < s
def spDraw (K : PySem.W.Frag) : Sp := fun vs H Q _ => ∃ (a sz : Addr) (ns : List Int) (k : Nat) (ss : List Int), vs = [.ref a, .int k, .ref sz] ∧ SqL K H a (ns.map V.int) ∧ H sz = some (.lst (ss.map V.int)) ∧ ss.length ≤ 1000 ∧ (∀ s ∈ ss, 0 < s ∧ s < 1000) ∧
  ∀ H' p ds, Same H H' → H p = none → H' p = some (.lst (ds.map V.int)) → Drawn ds ss → Q (.ref p) H'
theorem scDraw : FnScope ["_law_script", "_law_k", "_law_sizes", "_law_cell_here", "_law_drawn", "_law_size", "_law_stirred", "_law_j"] ["_law_script", "_law_k", "_law_sizes"] (defScope sDraw) := ⟨rfl, rfl, rfl, by decide +kernel, rfl, by decide +kernel, by decide +kernel⟩
theorem drawn_snoc {ds ss : List Int} {i : Nat} {d s : Int} (h : Drawn ds (ss.take i)) (hs : ss[i]? = some s) (h1 : 0 ≤ d) (h2 : d < s) : Drawn (ds ++ [d]) (ss.take (i + 1)) := by
  have hi := (List.getElem?_eq_some_iff.mp hs).1
  have hl : ds.length = i := by rw [h.1, List.length_take]; omega
  refine ⟨by rw [List.length_append, List.length_singleton, List.length_take]; omega, fun j x y hx hy => ?_⟩
  by_cases hj : j < i
  · refine h.2 j x y ?_ ?_
    · rw [List.getElem?_append_left (by omega)] at hx
      exact hx
    · rw [List.getElem?_take_of_lt (by omega)] at hy
      rw [List.getElem?_take_of_lt hj]
      exact hy
  · have hlt := (List.getElem?_eq_some_iff.mp hx).1
    rw [List.length_append, List.length_singleton] at hlt
    have e : j = i := by omega
    subst e
    rw [List.getElem?_take_of_lt (by omega), hs] at hy
    rw [← hl, List.getElem?_append_right (Nat.le_refl _)] at hx
    simp at hx
    have e2 := Option.some.inj hy
    omega
theorem ok_draw {f fC : Addr} {fd fdC : FuncData} (F : Fun K "_law_draw" "_law_draw" sDraw f fd) (B : Bi mg) (FC : Fun K "_law_cell" "_law_cell" sCell fC fdC) (bC : Binds K fdC ["_law_script", "_law_k"] []) (gC : mg "_law_cell" = some (.ref fC)) :
    FnOk P w K mg base CX0 2 f fd ["_law_script", "_law_k", "_law_sizes"] (spDraw K) := by
  have GC : FnOk P w K mg base CX0 1 fC fdC ["_law_script", "_law_k"] (spCell K) := ok_cell FC B
  refine F.ok scDraw (fun vs H Q E h => ?_) (fun cdv A outer s H vs Q E hr h => ?_)
  · obtain ⟨a, sz, ns, k, ss, rfl, _⟩ := h
    rfl
  · obtain ⟨a, sz, ns, k, ss, rfl, hS, hsz, hsl, hpos, q⟩ := h
    refine ⟨_, pss_cons (ps_set (i := 3) scDraw.nd rfl (Or.inl rfl) (pe_call GC hr (by rfl) gC FC.kp bC .nil pass0 (pa_cons (pv 0) (pa_cons (pv 1) pa_nil))))
      (C8.pss_cut (ps_if (pt_cmpR op_lt (pv 3) pe_int (nomark _)) (pss_one (ps_set (i := 3) scDraw.nd rfl (Or.inl rfl) (pe_un un_neg (pv 3)))) pss_nil)
      (pss_cons (ps_set (i := 4) scDraw.nd rfl (Or.inl rfl) (pe_lst pa_nil))
      (pss_cons (ps_if (pt_cmpR op_ge (pv 3) (pe_op op_pow pe_int pe_int) (nomark _))
        (pss_cons (ps_set (i := 3) scDraw.nd rfl (Or.inl rfl) (pe_op op_sub (pv 3) (pe_op op_pow pe_int pe_int)))
        (pss_cons (ps_for PassesOwn.never rfl (pi_list (pv 2)) (pg_name (i := 5) scDraw.nd rfl (Or.inl rfl))
          (pss_cons (ps_expr (pe_bm PySem.F.plainAttrs_list PySem.F.slot_list_append PySem.F.type_list_append mt_append (pv 4) (pa_cons (pe_op op_mod (pv 3) (pv 5)) pa_nil)))
          (pss_one (ps_set (i := 3) scDraw.nd rfl (Or.inl rfl) (pe_op op_fdiv (pv 3) (pv 5))))))
        (pss_one (ps_ret (pv 4))))) pss_nil)
      (pss_cons (ps_set (i := 6) scDraw.nd rfl (Or.inl rfl) (pe_op op_mod (pe_op op_add (pe_op op_add (pv 3) pe_int) (pe_op op_mul pe_int (pv 1))) pe_int))
      (pss_cons (ps_for PassesOwn.never rfl (pi_range1 (by rfl) B.range (pa_cons (pe_callB call_len_seq (by rfl) B.len PySem.boot_len (pa_cons (pv 2) pa_nil)) pa_nil)) (pg_name (i := 7) scDraw.nd rfl (Or.inl rfl))
        (pss_cons (ps_set (i := 6) scDraw.nd rfl (Or.inl rfl) (pe_op op_mod (pe_op op_add (pe_op op_add (pe_op op_mul (pv 6) pe_int) pe_int) (pv 7)) pe_int))
        (pss_cons (ps_set (i := 6) scDraw.nd rfl (Or.inl rfl) (pe_op op_mod (pe_op op_add (pe_op op_mul (pv 6) pe_int) pe_int) pe_int))
        (pss_one (ps_expr (pe_bm PySem.F.plainAttrs_list PySem.F.slot_list_append PySem.F.type_list_append mt_append (pv 4) (pa_cons (pe_op op_mod (pe_op op_fdiv (pv 6) pe_int) (pe_ix ix_list (pv 2) (pv 7) (fun _ _ => rfl))) pa_nil)))))))
      (pss_one (ps_ret (pv 4)))))))), ?_⟩
    refine ⟨_, rfl, _, rfl, a, ns, k, rfl, hS, fun z0 => ?_⟩
    refine ⟨fun σ H' => ∃ z : Int, σ = [some (.ref a), some (.int k), some (.ref sz), some (.int z), none, none, none, none] ∧ H' = H, ?_, ?_⟩
    · refine ⟨_, rfl, _, _, rfl, rfl, _, rfl, ?_⟩
      refine ite2 (fun _ => ?_) (fun _ => ?_)
      · exact ⟨_, rfl, _, rfl, -z0, rfl, rfl⟩
      · exact ⟨z0, rfl, rfl⟩
    · rintro σ H' ⟨z, rfl, rfl⟩
      refine ⟨Nat.zero_le _, fun l hl0 => ?_⟩
      have s1 : Same H' (upd H' l (.lst [])) := same_up hl0
      have e1 : (upd H' l (.lst [])) l = some (.lst []) := upd_same
      generalize hH1 : upd H' l (.lst []) = H1 at s1 e1 ⊢
      have hms : (ss.map V.int).length = ss.length := List.length_map ..
      have pw : CPow 10 18 := ⟨by decide, by decide, by decide⟩
      refine ⟨_, rfl, _, _, rfl, rfl, pw, _, _, rfl, rfl, _, rfl, ?_⟩
      refine ite2 (fun _ => ?_) (fun _ => ?_)
      · refine ⟨_, rfl, _, _, rfl, rfl, pw, _, _, rfl, rfl, ?_⟩
        refine ⟨_, rfl, sz, rfl, ⟨_, SqL.of (s1 _ _ hsz)⟩, for_list (K := K) (a := sz) (xs := ss.map V.int) (fun i σ H2 => ∃ (z : Int) (f5 : Option V) (ds : List Int), σ = [some (.ref a), some (.int k), some (.ref sz), some (.int z), some (.ref l), f5, none, none] ∧ Same H' H2 ∧ H2 l = some (.lst (ds.map V.int)) ∧ Drawn ds (ss.take i))
          ⟨_, none, [], rfl, s1, e1, by simp [Drawn]⟩ (fun i σ H2 _ h => ?_) ?_ ?_⟩
        · obtain ⟨_, _, _, _, s2, _⟩ := h
          exact SqL.of (s2 _ _ hsz)
        · rintro i y σ H2 hi ⟨z, f5, ds, rfl, s2, e2, hD⟩
          rw [List.getElem?_map] at hi
          cases hs : ss[i]? with
          | none => rw [hs] at hi; cases hi
          | some sv =>
          rw [hs] at hi
          obtain rfl := Option.some.inj hi
          have hp := hpos sv (List.mem_of_getElem? hs)
          have hdl : ds.length ≤ 1000 := by
            rw [hD.1, List.length_take]
            omega
          refine ⟨_, rfl, .inl ⟨rfl, _, SqL.of e2⟩, _, rfl, _, rfl, _, _, rfl, rfl, hp.1, l, _, _, rfl, rfl, e2, by rw [List.length_map]; exact small1000 hdl, ?_⟩
          refine ⟨_, rfl, _, rfl, _, _, rfl, rfl, ⟨hp.1, by show sv < 1073741824; omega⟩, ?_⟩
          refine ⟨_, _, ds ++ [z % sv], rfl, same_grow s2 hl0, ?_, drawn_snoc hD hs (Int.emod_nonneg _ (by omega)) (Int.emod_lt_of_pos _ hp.1)⟩
          rw [upd_same, List.map_append]
          rfl
        · rintro σ H2 ⟨z, f5, ds, rfl, s2, e2, hD⟩
          rw [hms, List.take_length] at hD
          exact ⟨_, rfl, q _ l ds s2 hl0 e2 hD⟩
      · refine ⟨_, rfl, _, _, rfl, rfl, _, rfl, _, _, rfl, rfl, .inl ⟨by decide, by decide⟩, _, _, rfl, rfl, _, _, rfl, rfl, (by show (0 : Int) < 2147483647; decide), ?_⟩
        refine ⟨_, rfl, sz, _, rfl, .inl (SqL.of (s1 _ _ hsz)), _, rfl, (by omega), (by omega), ?_⟩
        have hnk : ((ss.map V.int).length : Int).toNat = ss.length := by omega
        rw [hnk]
        refine for_range (lo := 0) (n := ss.length) (fun i σ H2 => ∃ (st : Int) (f7 : Option V) (ds : List Int), σ = [some (.ref a), some (.int k), some (.ref sz), some (.int z), some (.ref l), none, some (.int st), f7] ∧ 0 ≤ st ∧ st < 2147483647 ∧ Same H' H2 ∧ H2 l = some (.lst (ds.map V.int)) ∧ Drawn ds (ss.take i))
          ⟨_, none, [], rfl, Int.emod_nonneg _ (by decide), Int.emod_lt_of_pos _ (by decide), s1, e1, by simp [Drawn]⟩ ?_ ?_
        · rintro i σ H2 hi ⟨st, f7, ds, rfl, b1, b2, s2, e2, hD⟩
          have hs : ss[i]? = some ss[i] := List.getElem?_eq_getElem hi
          have hp := hpos _ (List.mem_of_getElem? hs)
          have hdl : ds.length ≤ 1000 := by
            rw [hD.1, List.length_take]
            omega
          have e3 : (ss.map V.int)[i]? = some (.int ss[i]) := by rw [List.getElem?_map, hs]; rfl
          refine ⟨_, rfl, _, _, rfl, rfl, .inl ⟨by omega, by omega⟩, _, _, rfl, rfl, _, rfl, _, _, rfl, rfl, _, _, rfl, rfl, (by show (0 : Int) < 2147483647; decide), ?_⟩
          generalize hst1 : (st * 48271 + 11 + (0 + (i : Int))) % 2147483647 = st1
          have c1 : 0 ≤ st1 := by rw [← hst1]; exact Int.emod_nonneg _ (by decide)
          have c2 : st1 < 2147483647 := by rw [← hst1]; exact Int.emod_lt_of_pos _ (by decide)
          refine ⟨_, rfl, _, _, rfl, rfl, .inl ⟨by omega, by omega⟩, _, _, rfl, rfl, _, _, rfl, rfl, (by show (0 : Int) < 2147483647; decide), ?_⟩
          generalize hst2 : (st1 * 69621 + 3) % 2147483647 = st2
          have d1 : 0 ≤ st2 := by rw [← hst2]; exact Int.emod_nonneg _ (by decide)
          have d2 : st2 < 2147483647 := by rw [← hst2]; exact Int.emod_lt_of_pos _ (by decide)
          refine ⟨_, rfl, .inl ⟨rfl, _, SqL.of e2⟩, _, rfl, _, _, rfl, rfl, ⟨by decide, by decide⟩, _, rfl, _, rfl, sz, _, _, _, rfl, rfl, SqL.of (s2 _ _ hsz), at_of (j := i) (by omega) e3, _, _, rfl, rfl, hp.1, l, _, _, rfl, rfl, e2, by rw [List.length_map]; exact small1000 hdl, ?_⟩
          subst hst2
          subst hst1
          refine ⟨_, some (.int (0 + (i : Int))), ds ++ [((st * 48271 + 11 + (0 + (i : Int))) % 2147483647 * 69621 + 3) % 2147483647 / 7 % ss[i]], rfl, d1, d2, same_grow s2 hl0, ?_, drawn_snoc hD hs (Int.emod_nonneg _ (by omega)) (Int.emod_lt_of_pos _ hp.1)⟩
          rw [upd_same, List.map_append]
          rfl
        · rintro σ H2 ⟨st, f7, ds, rfl, b1, b2, s2, e2, hD⟩
          rw [List.take_length] at hD
          exact ⟨_, rfl, q _ l ds s2 hl0 e2 hD⟩
end
end W2
-- text WC
set_option Elab.async false
set_option linter.all false
set_option maxRecDepth 100000
/-! _law_tree; own work -/
namespace W2
open PySem PySem.W L2 W0 W1 TM
def SS : List Int := [12, 4, 3] ++ (List.replicate 12 [9, 40, 12]).flatten
def NM : List Str := ["m", "a", "h1", "c", "z9", "b", "h2", "dd", "k", "e", "y", "f"]
theorem ss_at : ∀ j, j < 12 → SS[3 + 3 * j]? = some 9 ∧ SS[4 + 3 * j]? = some 40 ∧ SS[5 + 3 * j]? = some 12 := by decide
theorem ss_pos : ∀ s ∈ SS, 0 < s ∧ s < 1000 := by decide
theorem nm_nd : NM.Nodup := by decide +kernel
theorem nm_len : NM.length = 12 := rfl
theorem Drawn.at {ds ss : List Int} {i : Nat} {s : Int} (h : Drawn ds ss) (hs : ss[i]? = some s) : ∃ d, ds[i]? = some d ∧ 0 ≤ d ∧ d < s := by
  have hi := (List.getElem?_eq_some_iff.mp hs).1
  have hi2 : i < ds.length := by rw [h.1]; exact hi
  exact ⟨ds[i], List.getElem?_eq_getElem hi2, h.2 i _ s (List.getElem?_eq_getElem hi2) hs⟩
theorem map_at {ds : List Int} {i : Nat} {d : Int} (h : ds[i]? = some d) : (ds.map V.int)[i]? = some (.int d) := by
  rw [List.getElem?_map, h]
  rfl
theorem smap_at {ds : List Str} {i : Nat} {d : Str} (h : ds[i]? = some d) : (ds.map V.str)[i]? = some (.str d) := by
  rw [List.getElem?_map, h]
  rfl
/-- two texts, sorted -/
theorem sort2 {u v : Str} (h : u ≠ v) : ∃ a b, srtS [v, u] = [a, b] ∧ DatumOrd.lt a b = true ∧ ((a = u ∧ b = v) ∨ (a = v ∧ b = u)) := by
  have hp := srtS_perm [v, u]
  have hs := srtS_sorted [v, u]
  have hl := hp.length_eq
  match e : srtS [v, u], hl with
  | [a, b], _ =>
    rw [e] at hp hs
    have hnd : [a, b].Nodup := hp.nodup_iff.mpr (by simp [h.symm])
    have hab : a ≠ b := by
      intro z
      rw [z] at hnd
      simp at hnd
    have hle : sle a b := by
      have := (List.pairwise_cons.mp hs).1 b (by simp)
      exact this
    refine ⟨a, b, rfl, ?_, ?_⟩
    · show decide (a.cps.toList < b.cps.toList) = true
      rw [decide_eq_true_eq]
      refine Classical.byContradiction fun z => hab (sle_anti hle ?_)
      exact z
    · have ha : a ∈ [v, u] := hp.mem_iff.mp (by simp)
      have hb : b ∈ [v, u] := hp.mem_iff.mp (by simp)
      simp only [List.mem_cons, List.not_mem_nil, or_false] at ha hb
      rcases ha with rfl | rfl
      · rcases hb with rfl | rfl
        · exact absurd rfl hab
        · exact .inr ⟨rfl, rfl⟩
      · rcases hb with rfl | rfl
        · exact .inl ⟨rfl, rfl⟩
        · exact absurd rfl hab
theorem nm_take {i : Nat} (h : i < 12) : NM.take (i + 1) = NM.take i ++ [NM[i]'h] := by
  rw [List.take_add_one, List.getElem?_eq_getElem h]
  rfl
theorem nm_new {i : Nat} (h : i < 12) : NM[i]'h ∉ NM.take i := by
  intro z
  obtain ⟨j, hj, e⟩ := List.getElem_of_mem z
  rw [List.length_take] at hj
  rw [List.getElem_take] at e
  have := (List.getElem_inj nm_nd).mp e
  omega
section
variable {P : Program} {w : World} {K : PySem.W.Frag} {mg : Str → Option Value} {base : Heap}
def spTree (K : PySem.W.Frag) : Sp := fun vs H Q _ => ∃ (a : Addr) (ns : List Int) (k : Nat), vs = [.ref a, .int k, .int 12] ∧ SqL K H a (ns.map V.int) ∧
  ∀ H' v T, Same H H' → TrAt H' v T → GT T → T.names ≠ [] → Q v H'
theorem scTree : FnScope ["_law_script", "_law_k", "_law_most", "_law_digits", "_law_names_here", "_law_many", "_law_nodes", "_law_edges", "_law_j", "_law_weight", "_law_other", "_law_length", "_law_first", "_law_second"] ["_law_script", "_law_k", "_law_most"] (defScope sTree) := ⟨rfl, rfl, rfl, by decide +kernel, rfl, by decide +kernel, by decide +kernel⟩
theorem ok_tree {f fD : Addr} {fd fdD : FuncData} (F : Fun K "_law_tree" "_law_tree" sTree f fd) (B : Bi mg)
    (FD : Fun K "_law_draw" "_law_draw" sDraw fD fdD) (bD : Binds K fdD ["_law_script", "_law_k", "_law_sizes"] []) (gD : mg "_law_draw" = some (.ref fD)) (GD : FnOk P w K mg base CX0 2 fD fdD ["_law_script", "_law_k", "_law_sizes"] (spDraw K)) :
    FnOk P w K mg base CX0 3 f fd ["_law_script", "_law_k", "_law_most"] (spTree K) := by
  refine F.ok scTree (fun vs H Q E h => ?_) (fun cdv A outer s H vs Q E hr h => ?_)
  · obtain ⟨a, ns, k, rfl, _⟩ := h
    rfl
  · obtain ⟨a, ns, k, rfl, hS, q⟩ := h
    have hu := hr.units
    refine ⟨_, pss_cons (ps_set (i := 3) scTree.nd rfl (Or.inl rfl) (pe_call GD hr (by rfl) gD FD.kp bD .nil pass0 (pa_cons (pv 0) (pa_cons (pv 1) (pa_cons
        (pe_op op_cat (pe_lst (pa_cons (pv 2) (pa_cons pe_int (pa_cons pe_int pa_nil)))) (pe_op op_rep (pe_lst (pa_cons pe_int (pa_cons pe_int (pa_cons pe_int pa_nil)))) pe_int)) pa_nil)))))
      (pss_cons (ps_set (i := 4) scTree.nd rfl (Or.inl rfl) (pe_lst (pa_cons pe_str (pa_cons pe_str (pa_cons pe_str (pa_cons pe_str (pa_cons pe_str (pa_cons pe_str (pa_cons pe_str (pa_cons pe_str (pa_cons pe_str (pa_cons pe_str (pa_cons pe_str (pa_cons pe_str pa_nil))))))))))))))
      (pss_cons (ps_set (i := 5) scTree.nd rfl (Or.inl rfl) (pe_op op_add pe_int (pe_ix ix_list (pv 3) pe_int (fun _ _ => rfl))))
      (pss_cons (ps_set (i := 6) scTree.nd rfl (Or.inl rfl) (pe_lst pa_nil))
      (pss_cons (ps_set (i := 7) scTree.nd rfl (Or.inl rfl) (pe_lst pa_nil))
      (pss_cons (ps_for PassesOwn.never rfl (pi_range1 (by rfl) B.range (pa_cons (pv 5) pa_nil)) (pg_name (i := 8) scTree.nd rfl (Or.inl rfl))
        (pss_cons (ps_set (i := 9) scTree.nd rfl (Or.inl rfl) (pe_ix ix_list (pe_lst (pa_cons (pe_ix ix_list (pv 3) (pe_op op_add pe_int (pe_op op_mul pe_int (pv 8))) (fun _ _ => rfl)) (pa_cons pe_int (pa_cons (pe_op op_mul (pe_ix ix_list (pv 3) (pe_op op_add pe_int (pe_op op_mul pe_int (pv 8))) (fun _ _ => rfl)) pe_int) (pa_cons pe_int pa_nil)))))
          (pe_ix ix_list (pv 3) pe_int (fun _ _ => rfl)) (fun _ _ => rfl)))
        (pss_cons (ps_expr (pe_bm PySem.F.plainAttrs_list PySem.F.slot_list_append PySem.F.type_list_append mt_append (pv 6) (pa_cons (pe_tup (pa_cons (pe_ix ix_list (pv 4) (pv 8) (fun _ _ => rfl)) (pa_cons (pv 9) pa_nil))) pa_nil)))
        (pss_one (ps_if (pt_cmpR op_gt (pv 8) pe_int (nomark _))
          (pss_cons (ps_set (i := 10) scTree.nd rfl (Or.inl rfl) (pe_op op_mod (pe_ix ix_list (pv 3) (pe_op op_add pe_int (pe_op op_mul pe_int (pv 8))) (fun _ _ => rfl)) (pv 8)))
          (C8.pss_cut (ps_if (pt_cmpR op_eq (pe_ix ix_list (pv 3) pe_int (fun _ _ => rfl)) pe_int (nomark _)) (pss_one (ps_set (i := 10) scTree.nd rfl (Or.inl rfl) (pe_op op_sub (pv 8) pe_int))) pss_nil)
          (pss_cons (ps_set (i := 11) scTree.nd rfl (Or.inl rfl) (pe_op op_add pe_int (pe_ix ix_list (pv 3) (pe_op op_add pe_int (pe_op op_mul pe_int (pv 8))) (fun _ _ => rfl))))
          (pss_cons (ps_asg (pe_callB (cr_sortF Str hu) (by rfl) B.sorted (by decide +kernel) (pa_cons (pe_lst (pa_cons (pe_ix ix_list (pv 4) (pv 8) (fun _ _ => rfl)) (pa_cons (pe_ix ix_list (pv 4) (pv 10) (fun _ _ => rfl)) pa_nil))) pa_nil))
            (pg_unl rfl (pgs_cons (pg_name (i := 12) scTree.nd rfl (Or.inl rfl)) (pgs_cons (pg_name (i := 13) scTree.nd rfl (Or.inl rfl)) pgs_nil))))
          (pss_one (ps_expr (pe_bm PySem.F.plainAttrs_list PySem.F.slot_list_append PySem.F.type_list_append mt_append (pv 7) (pa_cons (pe_tup (pa_cons (pv 12) (pa_cons (pv 13) (pa_cons (pv 11) pa_nil)))) pa_nil)))))))) pss_nil)))))
      (pss_one (ps_ret (pe_tup (pa_cons (pe_callTy call_tuple_of (by rfl) B.tuple (by decide +kernel) (pa_cons (pe_callB (cr_sortF (Str × Int) hu) (by rfl) B.sorted (by decide +kernel) (pa_cons (pv 6) pa_nil)) pa_nil))
        (pa_cons (pe_callTy call_tuple_of (by rfl) B.tuple (by decide +kernel) (pa_cons (pe_callB (cr_sortF Ed hu) (by rfl) B.sorted (by decide +kernel) (pa_cons (pv 7) pa_nil)) pa_nil)) pa_nil)))))))))), ?_⟩
    -- digits
    refine ⟨_, rfl, _, rfl, _, rfl, (by show 3 ≤ sizeLine; decide), fun l1 hl1 => ⟨(by show 3 ≤ sizeLine; decide), fun l2 hl2 => ?_⟩⟩
    refine ⟨l2, 12, _, rfl, rfl, upd_same, by decide, by decide, (by show 3 * 12 ≤ sizeLine; decide), fun l3 hl3 => ?_⟩
    have s1 := ((same_up (o := .lst [V.int 12, .int 4, .int 3]) hl1).trans (same_up (o := .lst [V.int 9, .int 40, .int 12]) hl2)).trans (same_up (o := .lst (List.replicate (Int.toNat 12) [V.int 9, .int 40, .int 12]).flatten) hl3)
    refine ⟨l1, l3, _, _, rfl, rfl, ((same_up hl2).trans (same_up hl3)) _ _ upd_same, upd_same, (by show 3 + 36 ≤ sizeLine; decide), fun sz hsz => ?_⟩
    refine ⟨a, sz, ns, k, SS, rfl, (s1.trans (same_up hsz)).seq hS, upd_same, by decide, ss_pos, fun H1 dg ds sD hdg0 hdg hDr => ?_⟩
    have s2 : Same H H1 := (s1.trans (same_up hsz)).trans sD
    -- names
    refine ⟨(by show 12 ≤ sizeLine; decide), fun nm hnm => ?_⟩
    have hnme : (upd H1 nm (.lst (NM.map V.str))) nm = some (.lst (NM.map V.str)) := upd_same
    have s3 : Same H (upd H1 nm (.lst (NM.map V.str))) := s2.trans (same_up hnm)
    have hdg2 : (upd H1 nm (.lst (NM.map V.str))) dg = some (.lst (ds.map V.int)) := same_up hnm _ _ hdg
    show tSeq _ _ _ _ (upd H1 nm (.lst (NM.map V.str)))
    generalize hH2 : upd H1 nm (.lst (NM.map V.str)) = H2 at hnme s3 hdg2 ⊢
    obtain ⟨d0, hd0, b0, c0⟩ := hDr.at (i := 0) (s := 12) rfl
    obtain ⟨d1, hd1, b1, c1⟩ := hDr.at (i := 1) (s := 4) rfl
    obtain ⟨d2, hd2, b2, c2⟩ := hDr.at (i := 2) (s := 3) rfl
    refine ⟨_, rfl, dg, _, _, _, rfl, rfl, SqL.of hdg2, atI_nat (j := 0) (map_at hd0), _, _, rfl, rfl, ?_⟩
    -- nodes, edges
    refine ⟨Nat.zero_le _, fun nl hnl => ⟨Nat.zero_le _, fun el hel => ?_⟩⟩
    have nel : nl ≠ el := ne_of_none upd_same hel
    have hel2 : H2 el = none := Same.free (same_up hnl) hel
    obtain ⟨m, hm⟩ : ∃ m : Nat, (m : Int) = 1 + d0 := ⟨(1 + d0).toNat, by omega⟩
    have hm1 : 1 ≤ m := by omega
    have hm12 : m ≤ 12 := by omega
    refine ⟨_, rfl, _, rfl, (by omega), (by omega), ?_⟩
    have hmn : (1 + d0).toNat = m := by omega
    rw [hmn]
    refine for_range (lo := 0) (n := m) (fun i σ H' => ∃ (f8 f9 f10 f11 f12 f13 : Option V) (nsl : List (Str × Int)) (esl : List Ed) (ws1 ws2 : List V), σ = [some (.ref a), some (.int k), some (.int 12), some (.ref dg), some (.ref nm), some (.int (1 + d0)), some (.ref nl), some (.ref el), f8, f9, f10, f11, f12, f13] ∧
        Same H2 H' ∧ H' nl = some (.lst ws1) ∧ AllAt H' ws1 nsl ∧ H' el = some (.lst ws2) ∧ AllAt H' ws2 esl ∧ nsl.map (·.1) = NM.take i ∧ (i = 0 → esl = []) ∧ (0 < i → Grown (NM.take i) esl) ∧ esl.length ≤ i)
      ⟨none, none, none, none, none, none, [], [], [], [], rfl, (same_up hnl).trans (same_up hel), by rw [upd_ne nel]; exact upd_same, True.intro, upd_same, True.intro, rfl, fun _ => rfl, fun z => absurd z (Nat.lt_irrefl 0), Nat.le_refl _⟩ ?_ ?_
    · rintro i σ H3 hi ⟨f8, f9, f10, f11, f12, f13, nsl, esl, ws1, ws2, rfl, s4, hn, hN, he, hE, hmap, hz, hG, hel3⟩
      have hi12 : i < 12 := by omega
      obtain ⟨q3, q4, q5⟩ := ss_at i hi12
      obtain ⟨x3, hx3, p3, r3⟩ := hDr.at q3
      obtain ⟨x4, hx4, p4, r4⟩ := hDr.at q4
      obtain ⟨x5, hx5, p5, r5⟩ := hDr.at q5
      have hNi : NM[i]? = some (NM[i]'hi12) := List.getElem?_eq_getElem hi12
      have hnll : nsl.length = i := by
        have := congrArg List.length hmap
        rw [List.length_map, List.length_take, nm_len] at this
        omega
      have hw1 : ws1.length ≤ 1000 := by rw [hN.len]; omega
      have hw2 : ws2.length ≤ 1000 := by rw [hE.len]; omega
      -- weight
      refine ⟨_, rfl, _, rfl, _, _, rfl, rfl, .inl ⟨by decide, by decide⟩, _, _, rfl, rfl, dg, _, _, _, rfl, rfl, SqL.of (s4 _ _ hdg2), at_of (j := 4 + 3 * i) (by omega) (map_at hx4),
        _, rfl, _, rfl, _, _, rfl, rfl, .inl ⟨by decide, by decide⟩, _, _, rfl, rfl, dg, _, _, _, rfl, rfl, SqL.of (s4 _ _ hdg2), at_of (j := 4 + 3 * i) (by omega) (map_at hx4), _, _, rfl, rfl, .inl ⟨by omega, by omega⟩, (by show 4 ≤ sizeLine; decide), fun l5 hl5 => ?_⟩
      obtain ⟨wt, hwt⟩ : ∃ wt : Int, atI [V.int x4, V.int 0, V.int (x4 * 20), V.int 1] d1 = some (.int wt) := by
        have h4 : d1 = 0 ∨ d1 = 1 ∨ d1 = 2 ∨ d1 = 3 := by omega
        rcases h4 with rfl | rfl | rfl | rfl
        · exact ⟨_, atI_nat (j := 0) rfl⟩
        · exact ⟨_, atI_nat (j := 1) rfl⟩
        · exact ⟨_, atI_nat (j := 2) rfl⟩
        · exact ⟨_, atI_nat (j := 3) rfl⟩
      have s5 : Same H3 (upd H3 l5 (.lst [V.int x4, V.int 0, V.int (x4 * 20), V.int 1])) := same_up hl5
      refine ⟨_, rfl, dg, _, _, _, rfl, rfl, SqL.of (s5 _ _ (s4 _ _ hdg2)), atI_nat (j := 1) (map_at hd1), l5, _, _, _, rfl, rfl, SqL.of upd_same, hwt, ?_⟩
      -- nodes.append((names_here[j], weight))
      have hn5 := s5 _ _ hn
      have he5 := s5 _ _ he
      have hN5 := hN.keep (KT.of s5)
      have hE5 := hE.keep (KT.of s5)
      have s45 := s4.trans s5
      generalize hH5 : upd H3 l5 (.lst [V.int x4, V.int 0, V.int (x4 * 20), V.int 1]) = H5 at hn5 he5 hN5 hE5 s45 ⊢
      refine ⟨_, rfl, .inl ⟨rfl, _, SqL.of hn5⟩, _, rfl, _, rfl, nm, _, _, _, rfl, rfl, SqL.of (s45 _ _ hnme), at_of (j := i) (by omega) (smap_at hNi), _, rfl, (by show 2 ≤ sizeLine; decide), fun t6 ht6 => ?_⟩
      have nt6 : nl ≠ t6 := ne_of_none hn5 ht6
      refine ⟨nl, _, _, rfl, rfl, (by rw [upd_ne nt6]; exact hn5), small1000 hw1, ?_⟩
      have kt6 : KT H5 (upd (upd H5 t6 (.tup [.str (NM[i]'hi12), .int wt])) nl (.lst (ws1 ++ [.ref t6]))) := (KT.new ht6).trans (KT.lst (by rw [upd_ne nt6]; exact hn5))
      have hN6 : AllAt (upd (upd H5 t6 (.tup [.str (NM[i]'hi12), .int wt])) nl (.lst (ws1 ++ [.ref t6]))) (ws1 ++ [.ref t6]) (nsl ++ [(NM[i]'hi12, wt)]) := (hN5.keep kt6).app (AllAt.one ⟨t6, _, _, rfl, by rw [upd_ne nt6.symm, upd_same], rfl, rfl⟩)
      have hE6 := hE5.keep kt6
      have hn6 : (upd (upd H5 t6 (.tup [.str (NM[i]'hi12), .int wt])) nl (.lst (ws1 ++ [.ref t6]))) nl = some (.lst (ws1 ++ [.ref t6])) := upd_same
      have he6 : (upd (upd H5 t6 (.tup [.str (NM[i]'hi12), .int wt])) nl (.lst (ws1 ++ [.ref t6]))) el = some (.lst ws2) := by
        rw [upd_ne nel.symm, upd_ne (ne_of_none he5 ht6)]
        exact he5
      have s6 : Same H2 (upd (upd H5 t6 (.tup [.str (NM[i]'hi12), .int wt])) nl (.lst (ws1 ++ [.ref t6]))) := same_grow (s45.trans (same_up ht6)) hnl
      have hmap6 : (nsl ++ [(NM[i]'hi12, wt)]).map (·.1) = NM.take (i + 1) := by
        rw [List.map_append, hmap, nm_take hi12]
        rfl
      generalize hH6 : upd (upd H5 t6 (.tup [.str (NM[i]'hi12), .int wt])) nl (.lst (ws1 ++ [.ref t6])) = H6 at hN6 hE6 hn6 he6 s6 ⊢
      -- if j > 0
      refine ⟨_, rfl, _, _, rfl, rfl, _, rfl, ?_⟩
      refine ite2 (fun h => ?_) (fun h => ?_)
      · have hip : 0 < i := by
          have := of_decide_eq_true h
          omega
        have hgr := hG hip
        refine ⟨_, rfl, _, rfl, _, _, rfl, rfl, .inl ⟨by decide, by decide⟩, _, _, rfl, rfl, dg, _, _, _, rfl, rfl, SqL.of (s6 _ _ hdg2), at_of (j := 3 + 3 * i) (by omega) (map_at hx3), _, rfl, _, _, rfl, rfl, (by show (0 : Int) < 0 + (i : Int); omega), ?_⟩
        refine ⟨fun σ H' => ∃ o : Nat, o < i ∧ σ = [some (.ref a), some (.int k), some (.int 12), some (.ref dg), some (.ref nm), some (.int (1 + d0)), some (.ref nl), some (.ref el), some (.int (0 + (i : Int))), some (.int wt), some (.int o), f11, f12, f13] ∧ H' = H6, ?_, ?_⟩
        · have ho1 : 0 ≤ x3 % (0 + (i : Int)) := Int.emod_nonneg _ (by omega)
          have ho2 : x3 % (0 + (i : Int)) < 0 + (i : Int) := Int.emod_lt_of_pos _ (by omega)
          refine ⟨_, rfl, dg, _, _, _, rfl, rfl, SqL.of (s6 _ _ hdg2), atI_nat (j := 2) (map_at hd2), rfl, _, rfl, ?_⟩
          refine ite2 (fun _ => ?_) (fun _ => ?_)
          · refine ⟨_, rfl, _, _, rfl, rfl, i - 1, by omega, ?_, rfl⟩
            have : ((i - 1 : Nat) : Int) = 0 + (i : Int) - 1 := by omega
            rw [this]
            rfl
          · refine ⟨(x3 % (0 + (i : Int))).toNat, by omega, ?_, rfl⟩
            have : (((x3 % (0 + (i : Int))).toNat : Nat) : Int) = x3 % (0 + (i : Int)) := by omega
            rw [this]
            rfl
        · rintro σ H' ⟨o, ho, rfl, rfl⟩
          have ho12 : o < 12 := by omega
          have hNo : NM[o]? = some (NM[o]'ho12) := List.getElem?_eq_getElem ho12
          refine ⟨_, rfl, _, rfl, _, _, rfl, rfl, .inl ⟨by decide, by decide⟩, _, _, rfl, rfl, dg, _, _, _, rfl, rfl, SqL.of (s6 _ _ hdg2), at_of (j := 5 + 3 * i) (by omega) (map_at hx5), _, _, rfl, rfl, ?_⟩
          -- first, second = sorted([..])
          refine ⟨_, rfl, _, rfl, nm, _, _, _, rfl, rfl, SqL.of (s6 _ _ hnme), at_of (j := i) (by omega) (smap_at hNi), _, rfl, _, rfl, nm, _, _, _, rfl, rfl, SqL.of (s6 _ _ hnme), at_of (j := o) rfl (smap_at hNo), (by show 2 ≤ sizeLine; decide), fun l7 hl7 => ?_⟩
          have s7 := same_up (o := .lst [V.str (NM[i]'hi12), V.str (NM[o]'ho12)]) hl7
          refine ⟨_, [NM[i]'hi12, NM[o]'ho12], rfl, ⟨l7, _, rfl, upd_same, ⟨rfl, rfl, True.intro⟩⟩, (by show 0 ≤ 30; decide), (by show 2 ≤ 1000; decide), sortOk_str, fun D ws7 hD hW7 => ?_⟩
          have hne : NM[o]'ho12 ≠ NM[i]'hi12 := fun z => by
            have := (List.getElem_inj nm_nd).mp z
            omega
          obtain ⟨ea, eb, hsrt, hlt, hab⟩ := sort2 hne
          obtain rfl := hW7.strs
          have hsrt' : srtF [NM[i]'hi12, NM[o]'ho12] = [ea, eb] := hsrt
          rw [hsrt']
          have s8 := s7.trans (same_up (o := .lst ([ea, eb].map V.str)) hD)
          refine ⟨D, _, rfl, SqL.of upd_same, rfl, _, _, rfl, _, _, rfl, rfl, ?_⟩
          have he8 := s8 _ _ he6
          have hn8 := s8 _ _ hn6
          have hE8 := hE6.keep (KT.of s8)
          have hN8 := hN6.keep (KT.of s8)
          have s68 := s6.trans s8
          generalize hH8 : upd (upd H' l7 (.lst [V.str (NM[i]'hi12), V.str (NM[o]'ho12)])) D (.lst ([ea, eb].map V.str)) = H8 at he8 hn8 hE8 hN8 s68 ⊢
          refine ⟨_, rfl, .inl ⟨rfl, _, SqL.of he8⟩, _, rfl, _, rfl, _, rfl, (by show 3 ≤ sizeLine; decide), fun t9 ht9 => ?_⟩
          have et9 : el ≠ t9 := ne_of_none he8 ht9
          refine ⟨el, _, _, rfl, rfl, (by rw [upd_ne et9]; exact he8), small1000 hw2, ?_⟩
          have kt9 : KT H8 (upd (upd H8 t9 (.tup [.str ea, .str eb, .int (1 + x5)])) el (.lst (ws2 ++ [.ref t9]))) := (KT.new ht9).trans (KT.lst (by rw [upd_ne et9]; exact he8))
          refine ⟨_, _, _, _, _, _, nsl ++ [(NM[i]'hi12, wt)], esl ++ [⟨ea, eb, 1 + x5⟩], ws1 ++ [.ref t6], ws2 ++ [.ref t9], rfl, same_grow (s68.trans (same_up ht9)) hel2, ?_, hN8.keep kt9, upd_same, (hE8.keep kt9).app (AllAt.one ⟨t9, _, _, _, rfl, by rw [upd_ne et9.symm, upd_same], rfl, rfl, rfl⟩), hmap6, fun z => by omega, fun _ => ?_, ?_⟩
          · rw [upd_ne nel, upd_ne (ne_of_none hn8 ht9)]
            exact hn8
          · rw [nm_take hi12]
            refine Grown.add hgr (u := NM[o]'ho12) ?_ (nm_new hi12) hlt hab
            exact List.mem_take_iff_getElem.mpr ⟨o, by rw [nm_len]; omega, rfl⟩
          · rw [List.length_append, List.length_singleton]
            omega
      · have hi0 : i = 0 := by
          refine Classical.byContradiction fun z => h (decide_eq_true ?_)
          omega
        have he0 := hz hi0
        refine ⟨_, _, _, _, _, _, nsl ++ [(NM[i]'hi12, wt)], esl, ws1 ++ [.ref t6], ws2, rfl, s6, hn6, hN6, he6, hE6, hmap6, fun z => by omega, fun _ => ?_, by omega⟩
        subst hi0
        rw [he0]
        exact Grown.one _
    · rintro σ H3 ⟨f8, f9, f10, f11, f12, f13, nsl, esl, ws1, ws2, rfl, s4, hn, hN, he, hE, hmap, hz, hG, hel3⟩
      have hgr := hG (by omega)
      have hnll : nsl.length = m := by
        have := congrArg List.length hmap
        rw [List.length_map, List.length_take, nm_len] at this
        omega
      have hGT := Grown.gt (ns := nsl) (es := esl) (by rw [hmap]; exact hgr) (by omega)
      have s03 := s3.trans s4
      -- return (tuple(sorted(nodes)), tuple(sorted(edges)))
      refine ⟨_, rfl, _, nsl, rfl, ⟨nl, ws1, rfl, hn, hN⟩, (by show max 0 0 + 1 ≤ 30; decide), by omega, sortOk_pair, fun D1 v1 hD1 hV1 => ?_⟩
      refine ⟨D1, v1, rfl, .inl ⟨SqL.of upd_same, fun T1 hT1 => ?_⟩⟩
      have s5 := (same_up (o := .lst v1) hD1).trans (same_up (o := .tup v1) hT1)
      refine ⟨_, rfl, _, esl, rfl, ⟨el, ws2, rfl, s5 _ _ he, hE.keep (KT.of s5)⟩, (by show max (max 0 0) 0 + 1 ≤ 30; decide), by omega, sortOk_t3, fun D2 v2 hD2 hV2 => ?_⟩
      refine ⟨D2, v2, rfl, .inl ⟨SqL.of upd_same, fun T2 hT2 => ⟨(by show 2 ≤ sizeLine; decide), fun T3 hT3 => ?_⟩⟩⟩
      have s6 := (same_up (o := .lst v2) hD2).trans (same_up (o := .tup v2) hT2)
      have s7 := same_up (o := .tup [.ref T1, .ref T2]) hT3
      refine q _ (.ref T3) ⟨srt2 nsl, srt3 esl⟩ (((s03.trans s5).trans s6).trans s7) ⟨T3, _, _, rfl, upd_same, ⟨T1, v1, rfl, s7 _ _ (s6 _ _ upd_same), ?_⟩, ⟨T2, v2, rfl, s7 _ _ upd_same, ?_⟩⟩ hGT ?_
      · exact hV1.keep ((((KT.new hD1).trans (KT.new hT1)).trans (KT.of s6)).trans (KT.of s7))
      · exact hV2.keep (((KT.new hD2).trans (KT.new hT2)).trans (KT.of s7))
      · intro z
        have h1 : (Tr.names ⟨srt2 nsl, srt3 esl⟩).length = (srt2 nsl).length := List.length_map ..
        have h2 := (srt2_perm nsl).length_eq
        rw [z] at h1
        simp only [List.length_nil] at h1
        omega
end
end W2
-- text WD
set_option Elab.async false
set_option linter.all false
set_option maxRecDepth 100000
/-! _law_some; own work -/
namespace W2
open PySem PySem.W L2 W0 W1 TM
theorem filter_one {l : List Str} {x : Str} (hn : l.Nodup) (hx : x ∈ l) : (l.filter fun y => decide (y ≠ x)).length + 1 = l.length := by
  induction l with
  | nil => simp at hx
  | cons y l ih =>
    rw [List.nodup_cons] at hn
    rw [List.filter_cons]
    by_cases h : y = x
    · subst h
      have : (l.filter fun z => decide (z ≠ y)) = l := by
        rw [List.filter_eq_self]
        intro z hz
        exact decide_eq_true fun e => hn.1 (e ▸ hz)
      rw [this, if_neg (by simp)]
      rfl
    · rw [if_pos (decide_eq_true h), List.length_cons, List.length_cons]
      have hx' : x ∈ l := (List.mem_cons.mp hx).resolve_left fun e => h e.symm
      rw [ih hn.2 hx']
section
variable {P : Program} {w : World} {K : PySem.W.Frag} {mg : Str → Option Value} {base : Heap}
def spSome (K : PySem.W.Frag) : Sp := fun vs H Q _ => ∃ (a pn : Addr) (ns : List Int) (k : Nat) (names : List Str) (m : Int), vs = [.ref a, .int k, .ref pn, .int m] ∧ SqL K H a (ns.map V.int) ∧ H pn = some (.lst (names.map V.str)) ∧ names.Nodup ∧ names.length ≤ 12 ∧ 0 ≤ m ∧ m < 9 ∧
  ∀ (H' : Hp) (p : Addr) (found : List Str), Same H H' → H p = none → H' p = some (.lst (found.map V.str)) → found.length ≤ 12 → (∀ x ∈ found, x ∈ names) → Q (.ref p) H'
theorem scSome : FnScope ["_law_script", "_law_k", "_law_names_here", "_law_many", "_law_digits", "_law_left", "_law_found", "_law_j", "_law_name"] ["_law_script", "_law_k", "_law_names_here", "_law_many"] (defScope sSome) := ⟨rfl, rfl, rfl, by decide +kernel, rfl, by decide +kernel, by decide +kernel⟩
theorem ok_some {f fD : Addr} {fd fdD : FuncData} (F : Fun K "_law_some" "_law_some" sSome f fd) (B : Bi mg)
    (FD : Fun K "_law_draw" "_law_draw" sDraw fD fdD) (bD : Binds K fdD ["_law_script", "_law_k", "_law_sizes"] []) (gD : mg "_law_draw" = some (.ref fD)) (GD : FnOk P w K mg base CX0 2 fD fdD ["_law_script", "_law_k", "_law_sizes"] (spDraw K)) :
    FnOk P w K mg base CX0 3 f fd ["_law_script", "_law_k", "_law_names_here", "_law_many"] (spSome K) := by
  refine F.ok scSome (fun vs H Q E h => ?_) (fun cdv A outer s H vs Q E hr h => ?_)
  · obtain ⟨a, pn, ns, k, names, m, rfl, _⟩ := h
    rfl
  · obtain ⟨a, pn, ns, k, names, m, rfl, hS, hpn, hnd, hnl, hm0, hm9, q⟩ := h
    have hu := hr.units
    refine ⟨_, pss_cons (ps_set (i := 4) scSome.nd rfl (Or.inl rfl) (pe_call GD hr (by rfl) gD FD.kp bD .nil pass0 (pa_cons (pv 0) (pa_cons (pv 1) (pa_cons
        (pe_op op_rep (pe_lst (pa_cons pe_int pa_nil)) pe_int) pa_nil)))))
      (pss_cons (ps_set (i := 5) scSome.nd rfl (Or.inl rfl) (pe_callTy call_list_of (by rfl) B.list (by decide +kernel) (pa_cons (pv 2) pa_nil)))
      (pss_cons (ps_set (i := 6) scSome.nd rfl (Or.inr rfl) (pe_lst pa_nil))
      (pss_cons (ps_for PassesOwn.never rfl (pi_range1 (by rfl) B.range (pa_cons (pe_callB (call_min2 rfl) (by rfl) B.min (by decide +kernel) (pa_cons (pv 3) (pa_cons (pe_callB call_len_seq (by rfl) B.len PySem.boot_len (pa_cons (pv 2) pa_nil)) pa_nil))) pa_nil)) (pg_name (i := 7) scSome.nd rfl (Or.inl rfl))
        (pss_cons (ps_expr (pe_bm PySem.F.plainAttrs_list PySem.F.slot_list_append PySem.F.type_list_append mt_append (pv 6) (pa_cons (pe_ix ix_list (pv 5) (pe_op op_mod (pe_ix ix_list (pv 4) (pv 7) (fun _ _ => rfl)) (pe_callB call_len_seq (by rfl) B.len PySem.boot_len (pa_cons (pv 5) pa_nil))) (fun _ _ => rfl)) pa_nil)))
        (pss_one (ps_setLc (i := 5) (own := [("_law_name", 8)]) (g := gName 8) (tt := tTest (tOp rNe (tVar 8) (tOp (rIxL K) (tVar 6) (tUn (rU fun i => .int (-i)) (tC (.int 1)))))) (te := tVar 8) (by rfl) scSome.nd rfl rfl (sw_true rfl rfl rfl (by decide +kernel)) (pi_list (pv 5))
          (blkOk_by (N := ["_law_script", "_law_k", "_law_names_here", "_law_many", "_law_digits", "_law_left", "_law_found", "_law_j", "_law_name"]) (sc := defScope sSome) (by decide +kernel))
          (fun _ _ _ _ _ => pg_name (i := 8) scSome.nd rfl (Or.inl rfl))
          (fun _ _ _ _ _ => pts_one (pt_cmpR op_ne (pv 8) (pe_ix ix_list (pv 6) (pe_un un_neg pe_int) (fun _ _ => rfl)) (nomark _))) (fun _ _ _ _ _ => pv 8)))))
      (pss_one (ps_ret (pv 6)))))), ?_⟩
    -- digits
    refine ⟨_, rfl, _, rfl, (by show 1 ≤ sizeLine; decide), fun l1 hl1 => ?_⟩
    refine ⟨l1, 12, _, rfl, rfl, upd_same, by decide, by decide, (by show 1 * 12 ≤ sizeLine; decide), fun sz hsz => ?_⟩
    have s1 := (same_up (o := .lst [V.int 12]) hl1).trans (same_up (o := .lst (List.replicate (Int.toNat 12) [V.int 12]).flatten) hsz)
    refine ⟨a, sz, ns, k, List.replicate 12 12, rfl, s1.seq hS, upd_same, by decide, by decide, fun H1 dg ds sD hdg0 hdg hDr => ?_⟩
    have s2 : Same H H1 := s1.trans sD
    -- left = list(names_here); found = []
    refine ⟨_, rfl, pn, _, rfl, .inl (SqL.of (s2 _ _ hpn)), fun lf hlf => ⟨Nat.zero_le _, fun fo hfo => ?_⟩⟩
    have s3 : Same H (upd H1 lf (.lst (names.map V.str))) := s2.trans (same_up hlf)
    have hlf3 : (upd H1 lf (.lst (names.map V.str))) lf = some (.lst (names.map V.str)) := upd_same
    have hdg3 : (upd H1 lf (.lst (names.map V.str))) dg = some (.lst (ds.map V.int)) := same_up hlf _ _ hdg
    generalize hH3 : upd H1 lf (.lst (names.map V.str)) = H3 at hfo s3 hlf3 hdg3 ⊢
    have hfo0 : H fo = none := Same.free s3 hfo
    have hml : (names.map V.str).length = names.length := List.length_map ..
    have lfo : lf ≠ fo := ne_of_none hlf3 hfo
    have dfo : dg ≠ fo := ne_of_none hdg3 hfo
    refine ⟨_, rfl, _, rfl, pn, _, rfl, .inl (SqL.of (same_up hfo _ _ (s3 _ _ hpn))), m, _, rfl, ?_⟩
    obtain ⟨mm, hmm, hmn, hmm9⟩ : ∃ mm : Nat, (mm : Int) = (if ((names.map V.str).length : Int) < m then ((names.map V.str).length : Int) else m) ∧ mm ≤ names.length ∧ mm ≤ 8 := by
      by_cases h : ((names.map V.str).length : Int) < m
      · rw [if_pos h, hml]
        rw [hml] at h
        exact ⟨names.length, rfl, Nat.le_refl _, by omega⟩
      · rw [if_neg h]
        rw [hml] at h
        exact ⟨m.toNat, by omega, by omega, by omega⟩
    refine ⟨_, rfl, (by omega), (by omega), ?_⟩
    rw [← hmm]
    have hmt : ((mm : Nat) : Int).toNat = mm := by omega
    rw [hmt]
    refine for_range (lo := 0) (n := mm) (fun i σ H' => ∃ (pl : Addr) (f7 : Option V) (left found : List Str), σ = [some (.ref a), some (.int k), some (.ref pn), some (.int m), some (.ref dg), some (.ref pl), some (.ref fo), f7, none] ∧
        Same H3 H' ∧ H' pl = some (.lst (left.map V.str)) ∧ pl ≠ fo ∧ left.Nodup ∧ left.length + i = names.length ∧ (∀ x ∈ left, x ∈ names) ∧ H' fo = some (.lst (found.map V.str)) ∧ found.length = i ∧ ∀ x ∈ found, x ∈ names)
      ⟨lf, none, names, [], rfl, same_up hfo, same_up hfo _ _ hlf3, lfo, hnd, rfl, fun x hx => hx, upd_same, rfl, fun x hx => by simp at hx⟩ ?_ ?_
    · rintro i σ H' hi ⟨pl, f7, left, found, rfl, s4, hpl, plfo, hln, hll, hls, hf, hfl, hfs⟩
      have hi12 : (List.replicate 12 (12 : Int))[i]? = some 12 := by
        rw [List.getElem?_replicate, if_pos (by omega)]
      obtain ⟨x, hx, p1, p2⟩ := hDr.at hi12
      have hlm : (left.map V.str).length = left.length := List.length_map ..
      have hlpos : 0 < left.length := by omega
      have hr1 : 0 ≤ x % (left.length : Int) := Int.emod_nonneg _ (by omega)
      have hr2 : x % (left.length : Int) < (left.length : Int) := Int.emod_lt_of_pos _ (by omega)
      obtain ⟨j, hj⟩ : ∃ j : Nat, (j : Int) = x % (left.length : Int) := ⟨(x % (left.length : Int)).toNat, by omega⟩
      have hjl : j < left.length := by omega
      have hlj : left[j]? = some left[j] := List.getElem?_eq_getElem hjl
      have hjm : left[j] ∈ left := List.getElem_mem hjl
      refine ⟨_, rfl, .inl ⟨rfl, _, SqL.of hf⟩, _, rfl, _, rfl, _, rfl, dg, _, _, _, rfl, rfl, SqL.of (s4 _ _ hdg3), at_of (j := i) (by omega) (map_at hx), _, rfl, pl, _, rfl, .inl (SqL.of hpl), _, _, rfl, rfl, (by rw [hlm]; omega), pl, _, _, _, rfl, rfl, SqL.of hpl, at_of (j := j) (by rw [hlm, hj]) (smap_at hlj), ?_⟩
      refine ⟨fo, _, _, rfl, rfl, hf, by rw [List.length_map]; exact small1000 (by omega), ?_⟩
      -- left = [..]
      have s5 : Same H3 (upd H' fo (.lst (found.map V.str ++ [.str left[j]]))) := same_grow s4 hfo
      have hpl5 : (upd H' fo (.lst (found.map V.str ++ [.str left[j]]))) pl = some (.lst (left.map V.str)) := by rw [upd_ne plfo]; exact hpl
      have hf5 : (upd H' fo (.lst (found.map V.str ++ [.str left[j]]))) fo = some (.lst (found.map V.str ++ [.str left[j]])) := upd_same
      generalize hH5 : upd H' fo (.lst (found.map V.str ++ [.str left[j]])) = H5 at s5 hpl5 hf5 ⊢
      refine ⟨_, rfl, pl, rfl, ⟨_, SqL.of hpl5⟩, fun D hD => ?_⟩
      have Dfo : D ≠ fo := fun z => by rw [z, hf5] at hD; cases hD
      refine lc_fmL (K := K) (f := fun y : Str => if decide (y ≠ left[j]) = true then some y else none) (SqL.of hpl5) (AllAt.of_strs left) (by omega) hD (fun y vp H6 Qy Qn hy s6 hat hyy hn => ?_) fun H6 ws s6 e hw => ?_
      · obtain rfl := hat
        refine ⟨rfl, _, rfl, _, rfl, _, rfl, fo, _, _, _, rfl, rfl, SqL.of (s6 _ _ hf5), atI_last _ _, rfl, _, rfl, ?_⟩
        have hdd : (!decide (V.str y = V.str left[j])) = decide (y ≠ left[j]) := by
          by_cases h : y = left[j]
          · rw [h]; simp
          · rw [decide_eq_false (fun z => h (V.str.inj z)), decide_eq_true h]; rfl
        rw [hdd]
        refine ite2 (fun h => ?_) (fun h => ?_)
        · exact ⟨_, rfl, hyy _ _ y (by rw [if_pos h]) (Same.refl _) rfl⟩
        · exact hn _ (by rw [if_neg h]) (Same.refl _)
      · rw [fm_filter] at hw
        obtain rfl := hw.strs
        have hfo1 := filter_one hln hjm
        refine ⟨D, some (.int (0 + (i : Int))), left.filter (fun y => decide (y ≠ left[j])), found ++ [left[j]], rfl, s5.trans s6, e, Dfo, hln.sublist List.filter_sublist, by omega, fun x hx => hls x (List.mem_filter.mp hx).1, ?_, ?_, ?_⟩
        · rw [s6 _ _ hf5, List.map_append]
          rfl
        · rw [List.length_append, List.length_singleton, hfl]
        · intro z hz
          rcases List.mem_append.mp hz with hz | hz
          · exact hfs z hz
          · rw [List.mem_singleton.mp hz]
            exact hls _ hjm
    · rintro σ H' ⟨pl, f7, left, found, rfl, s4, hpl, plfo, hln, hll, hls, hf, hfl, hfs⟩
      exact ⟨_, rfl, q H' fo found (s3.trans s4) hfo0 hf (by omega) hfs⟩
end
end W2
-- text WE
set_option Elab.async false
set_option linter.all false
set_option maxRecDepth 100000
set_option maxHeartbeats 4000000
/-! the law; own work -/
namespace W2
open PySem PySem.W L2 W0 W1 TM
/-- a def that is there, with its promise -/
structure Df (P : Program) (w : World) (K : PySem.W.Frag) (mg : Str → Option Value) (base : Heap) (x : Str) (ps : List Str) (k : Nat) (sp : Sp) (f : Addr) (fd : FuncData) : Prop where
  kp : PySem.W.keepIn K (.ref f) = true
  b : Binds K fd ps []
  g : mg x = some (.ref f)
  G : FnOk P w K mg base CX0 k f fd ps sp
theorem SmT.seq {K : PySem.W.Frag} {PT : Addr} {H H' : Hp} {a : Addr} {xs : List V} (s : SmT PT H H') (t : GxR.TabG H PT) (h : SqL K H a xs) : SqL K H' a xs := by
  rcases h with (h | ⟨o, h⟩) | h
  · exact .inl (.inl (s.lst t h))
  · exact .inl (.inr ⟨o, s.1 _ _ (tabG_ne t h (fun ps z => by cases z)) h⟩)
  · exact .inr h
theorem filterMap_none {α β : Type} : ∀ xs : List α, xs.filterMap (fun _ => (none : Option β)) = []
  | [] => rfl
  | x :: xs => by rw [List.filterMap_cons]; exact filterMap_none xs
theorem bl_eq (a b : Bool) : decide (V.bl a = V.bl b) = decide (a = b) := by
  cases a <;> cases b <;> decide
section
variable {P : Program} {w : World} {K : PySem.W.Frag} {mg : Str → Option Value} {base : Heap}
abbrev NL : List Str := ["_law_script", "_law_k", "_law_tree_here", "_law_names_here", "_law_digits", "_law_start", "_law_wanted", "_law_around", "_law_trip", "_law_pairs", "_law_told", "_law_end", "_law_name", "_law_edge", "_law_total", "_law_near", "_law_far", "_law_beyond", "_law_other"]
def spLaw (K : PySem.W.Frag) (PT : Addr) : Sp := fun vs H Q _ => ∃ (a : Addr) (ns : List Int), vs = [.ref a] ∧ SqL K H a (ns.map V.int) ∧ ns.length ≤ 63 ∧ GxR.TabG H PT ∧ ∀ H', Q (.bl true) H'
theorem scLaw : FnScope NL ["_law_script"] (defScope sLaw) := ⟨rfl, rfl, rfl, by decide +kernel, rfl, by decide +kernel, by decide +kernel⟩
theorem ok_law {f PT fT fM fD fS fR fI fQ fU fN fB fL fW : Addr} {fd fdT fdM fdD fdS fdR fdI fdQ fdU fdN fdB fdL fdW : FuncData} (F : Fun K "law" "law" sLaw f fd) (B : Bi mg)
    (T1 : Df P w K mg base "_law_tree" ["_law_script", "_law_k", "_law_most"] 3 (spTree K) fT fdT) (M1 : Df P w K mg base "_law_names" ["_law_tree_here"] 1 spNames fM fdM)
    (D1 : Df P w K mg base "_law_draw" ["_law_script", "_law_k", "_law_sizes"] 2 (spDraw K) fD fdD) (S1 : Df P w K mg base "_law_some" ["_law_script", "_law_k", "_law_names_here", "_law_many"] 3 (spSome K) fS fdS)
    (R1 : Df P w K mg base "round_of" ["some_tree", "start", "wanted"] 17 (spRound PT) fR fdR) (I1 : Df P w K mg base "trip_of" ["some_tree", "start", "wanted"] 17 (spTrip PT) fI fdI)
    (Q1 : Df P w K mg base "round_reason" ["some_tree", "start", "wanted"] 6 (spReason PT) fQ fdQ) (U1 : Df P w K mg base "trip_reason" ["some_tree", "start", "wanted"] 7 (spTripR PT) fU fdU)
    (N1 : Df P w K mg base "needed" ["some_tree", "start", "wanted"] 5 (spNeeded PT) fN fdN) (B1 : Df P w K mg base "sides" ["some_tree", "first", "second"] 3 spSides fB fdB)
    (L1 : Df P w K mg base "distance" ["some_tree", "first", "second"] 3 spDist fL fdL) (W1 : Df P w K mg base "walk_length" ["some_tree", "walk"] 2 spWlen fW fdW) :
    FnOk P w K mg base CX0 18 f fd ["_law_script"] (spLaw K PT) := by
  refine F.ok scLaw (fun vs H Q E h => ?_) (fun cdv A outer s H vs Q E hr h => ?_)
  · obtain ⟨a, ns, rfl, _⟩ := h
    rfl
  · obtain ⟨a, ns, rfl, hS, hlen, hTab, q⟩ := h
    have hu := hr.units
    have hr1 : Room 1 _ := hr.mono (by decide)
    have hr2 : Room 2 _ := hr.mono (by decide)
    have hr3 : Room 3 _ := hr.mono (by decide)
    have hr5 : Room 5 _ := hr.mono (by decide)
    have hr6 : Room 6 _ := hr.mono (by decide)
    have hr7 : Room 7 _ := hr.mono (by decide)
    refine ⟨_, pss_cons (ps_for PassesOwn.never rfl (pi_range1 (by rfl) B.range (pa_cons (pe_callB (call_min2 rfl) (by rfl) B.min (by decide +kernel) (pa_cons pe_int (pa_cons (pe_callB (call_max2 rfl) (by rfl) B.max (by decide +kernel) (pa_cons pe_int (pa_cons (pe_op op_fdiv (pe_callB call_len_seq (by rfl) B.len PySem.boot_len (pa_cons (pv 0) pa_nil)) pe_int) pa_nil))) pa_nil))) pa_nil)) (pg_name (i := 1) scLaw.nd rfl (Or.inl rfl))
        (pss_cons (ps_set (i := 2) scLaw.nd rfl (Or.inr rfl) (pe_call T1.G hr3 (by rfl) T1.g T1.kp T1.b .nil pass0 (pa_cons (pv 0) (pa_cons (pe_op op_mul pe_int (pv 1)) (pa_cons pe_int pa_nil)))))
        (pss_cons (ps_set (i := 3) scLaw.nd rfl (Or.inl rfl) (pe_call M1.G hr1 (by rfl) M1.g M1.kp M1.b .nil pass0 (pa_cons (pv 2) pa_nil)))
        (pss_cons (ps_set (i := 4) scLaw.nd rfl (Or.inl rfl) (pe_call D1.G hr2 (by rfl) D1.g D1.kp D1.b .nil pass0 (pa_cons (pv 0) (pa_cons (pe_op op_add (pe_op op_mul pe_int (pv 1)) pe_int) (pa_cons (pe_lst (pa_cons pe_int (pa_cons pe_int pa_nil))) pa_nil)))))
        (pss_cons (ps_set (i := 5) scLaw.nd rfl (Or.inr rfl) (pe_ix ix_list (pv 3) (pe_op op_mod (pe_ix ix_list (pv 4) pe_int (fun _ _ => rfl)) (pe_callB call_len_seq (by rfl) B.len PySem.boot_len (pa_cons (pv 3) pa_nil))) (fun _ _ => rfl)))
        (pss_cons (ps_set (i := 6) scLaw.nd rfl (Or.inl rfl) (pe_call S1.G hr3 (by rfl) S1.g S1.kp S1.b .nil pass0 (pa_cons (pv 0) (pa_cons (pe_op op_add (pe_op op_mul pe_int (pv 1)) pe_int) (pa_cons (pv 3) (pa_cons (pe_ix ix_list (pv 4) pe_int (fun _ _ => rfl)) pa_nil))))))
        (pss_cons (ps_set (i := 7) scLaw.nd rfl (Or.inr rfl) (pe_call R1.G hr (by rfl) R1.g R1.kp R1.b .nil pass0 (pa_cons (pv 2) (pa_cons (pv 5) (pa_cons (pv 6) pa_nil)))))
        (pss_cons (ps_set (i := 8) scLaw.nd rfl (Or.inr rfl) (pe_call I1.G hr (by rfl) I1.g I1.kp I1.b .nil pass0 (pa_cons (pv 2) (pa_cons (pv 5) (pa_cons (pv 6) pa_nil)))))
        (pss_cons (ps_set (i := 9) scLaw.nd rfl (Or.inl rfl) (pe_call Q1.G hr6 (by rfl) Q1.g Q1.kp Q1.b .nil pass0 (pa_cons (pv 2) (pa_cons (pv 5) (pa_cons (pv 6) pa_nil)))))
        (pss_cons (ps_asg (pe_call U1.G hr7 (by rfl) U1.g U1.kp U1.b .nil pass0 (pa_cons (pv 2) (pa_cons (pv 5) (pa_cons (pv 6) pa_nil)))) (pg_tup rfl (pgs_cons (pg_name (i := 10) scLaw.nd rfl (Or.inl rfl)) (pgs_cons (pg_name (i := 11) scLaw.nd rfl (Or.inr rfl)) pgs_nil))))
        (pss_cons (ps_if (PW.pt (pw_or (pt_cmpR op_ne (pe_ix ix_list (pv 7) pe_int (fun _ _ => rfl)) (pv 5) (nomark _))
            (pw_or (pt_cmpR op_ne (pe_ix ix_list (pv 7) (pe_un un_neg pe_int) (fun _ _ => rfl)) (pv 5) (nomark _))
            (pw_or (pt_cmpR op_ne (pe_ix ix_list (pv 8) pe_int (fun _ _ => rfl)) (pv 5) (nomark _))
            (pw_or (pt_cmpR (op_neL ((Str × Str) × Str) hu) (pv 10) (pv 9) (nomark _))
            (pw_or1 (pt_cmpR op_ne (pe_ix ix_list (pv 8) (pe_un un_neg pe_int) (fun _ _ => rfl)) (pv 11) (nomark _)))))))) (pss_one (ps_ret pe_bl)) pss_nil)
        (pss_cons (ps_if (pt_cmpR (op_neL Str hu) (pe_lc (own := [("_law_name", 12)]) (g := gName 12) (tt := tOr (tTest (tOp (rNiF Str) (tVar 12) (tVar 7))) (tTest (tOp (rNiF Str) (tVar 12) (tVar 8)))) (te := tVar 12) rfl scLaw.nd (pi_list (pv 6))
            (blkOk_by (N := NL) (sc := defScope sLaw) (by decide +kernel)) (fun _ _ _ _ _ => pg_name (i := 12) scLaw.nd rfl (Or.inl rfl))
            (fun _ _ _ _ _ => pts_one (PW.pt (pw_or (pt_cmpR (op_notInF Str hu) (pv 12) (pv 7) rfl) (pw_or1 (pt_cmpR (op_notInF Str hu) (pv 12) (pv 8) rfl))))) (fun _ _ _ _ _ => pv 12)) (pe_lst pa_nil) (nomark _)) (pss_one (ps_ret pe_bl)) pss_nil)
        (pss_cons (ps_if (pt_cmpR (op_neL (Str × Str) hu) (pe_lc (own := [("_law_edge", 13), ("_law_name", 12)]) (g := gTup K 2 (gCons (gName 13) (gCons (gName 12) gNil))) (tt := tYes) (te := tVar 13) rfl scLaw.nd (pi_list (pv 9))
            (blkOk_by (N := NL) (sc := defScope sLaw) (by decide +kernel)) (fun _ _ _ _ _ => pg_tup (n := 2) rfl (pgs_cons (pg_name (i := 13) scLaw.nd rfl (Or.inl rfl) (Or.inr rfl)) (pgs_cons (pg_name (i := 12) scLaw.nd rfl (Or.inl rfl) (Or.inr rfl)) pgs_nil)))
            (fun _ _ _ _ _ => pts_nil) (fun _ _ _ _ _ => pv 13)) (pe_call N1.G hr5 (by rfl) N1.g N1.kp N1.b .nil pass0 (pa_cons (pv 2) (pa_cons (pv 5) (pa_cons (pv 6) pa_nil)))) (nomark _)) (pss_one (ps_ret pe_bl)) pss_nil)
        (pss_cons (ps_set (i := 14) scLaw.nd rfl (Or.inl rfl) pe_int)
        (pss_cons (ps_for PassesOwn.never rfl (pi_list (pv 9)) (pg_tup rfl (pgs_cons (pg_name (i := 13) scLaw.nd rfl (Or.inl rfl)) (pgs_cons (pg_name (i := 12) scLaw.nd rfl (Or.inl rfl)) pgs_nil)))
          (pss_cons (ps_asg (pe_call B1.G hr3 (by rfl) B1.g B1.kp B1.b .nil pass0 (pa_cons (pv 2) (pa_cons (pe_ix ix_tup (pv 13) pe_int (fun _ _ => rfl)) (pa_cons (pe_ix ix_tup (pv 13) pe_int (fun _ _ => rfl)) pa_nil)))) (pg_tup rfl (pgs_cons (pg_name (i := 15) scLaw.nd rfl (Or.inr rfl)) (pgs_cons (pg_name (i := 16) scLaw.nd rfl (Or.inl rfl)) pgs_nil))))
          (pss_cons (ps_set (i := 17) scLaw.nd rfl (Or.inl rfl) (pe_callB (cr_sortF Str hu) (by rfl) B.sorted (by decide +kernel) (pa_cons (pe_lc (own := [("_law_other", 18)]) (g := gName 18) (tt := tTest (tOp rNe (tOp (rInF Str) (tVar 18) (tVar 15)) (tOp (rInF Str) (tVar 5) (tVar 15)))) (te := tVar 18) rfl scLaw.nd (pi_list (pv 6))
            (blkOk_by (N := NL) (sc := defScope sLaw) (by decide +kernel)) (fun _ _ _ _ _ => pg_name (i := 18) scLaw.nd rfl (Or.inl rfl))
            (fun _ _ _ _ _ => pts_one (pt_cmpR op_ne (pe_cmpR (op_inF Str hu) (pv 18) (pv 15) rfl) (pe_cmpR (op_inF Str hu) (pv 5) (pv 15) rfl) (nomark _))) (fun _ _ _ _ _ => pv 18)) pa_nil)))
          (pss_cons (ps_if (pt_cmpR op_ne (pv 12) (pe_ix ix_list (pv 17) pe_int (fun _ _ => rfl)) (nomark _)) (pss_one (ps_ret pe_bl)) pss_nil)
          (pss_one (ps_set (i := 14) scLaw.nd rfl (Or.inl rfl) (pe_op op_add (pv 14) (pe_call L1.G hr3 (by rfl) L1.g L1.kp L1.b .nil pass0 (pa_cons (pv 2) (pa_cons (pe_ix ix_tup (pv 13) pe_int (fun _ _ => rfl)) (pa_cons (pe_ix ix_tup (pv 13) pe_int (fun _ _ => rfl)) pa_nil)))))))))))
        (pss_cons (ps_if (PW.pt (pw_or (pt_cmpR op_ne (pe_call W1.G hr2 (by rfl) W1.g W1.kp W1.b .nil pass0 (pa_cons (pv 2) (pa_cons (pv 7) pa_nil))) (pe_op op_mul pe_int (pv 14)) (nomark _))
            (pw_or1 (pt_cmpR op_ne (pe_call W1.G hr2 (by rfl) W1.g W1.kp W1.b .nil pass0 (pa_cons (pv 2) (pa_cons (pv 8) pa_nil))) (pe_op op_sub (pe_op op_mul pe_int (pv 14)) (pe_call L1.G hr3 (by rfl) L1.g L1.kp L1.b .nil pass0 (pa_cons (pv 2) (pa_cons (pv 5) (pa_cons (pv 11) pa_nil))))) (nomark _))))) (pss_one (ps_ret pe_bl)) pss_nil)
        (pss_one (ps_if (pt_cmpR (op_neL Str hu) (pe_lc (own := [("_law_name", 12)]) (g := gName 12) (tt := tTest (tOp (rI0 fun i j => .bl (decide (j < i))) (tCall spDist [] E0 (tCons (tVar 2) (tCons (tVar 5) (tCons (tVar 12) tNil)))) (tCall spDist [] E0 (tCons (tVar 2) (tCons (tVar 5) (tCons (tVar 11) tNil)))))) (te := tVar 12) rfl scLaw.nd (pi_list (pv 6))
            (blkOk_by (N := NL) (sc := defScope sLaw) (by decide +kernel)) (fun _ _ _ _ _ => pg_name (i := 12) scLaw.nd rfl (Or.inl rfl))
            (fun _ _ _ _ _ => pts_one (pt_cmpR op_gt (pe_call L1.G hr3 (by rfl) L1.g L1.kp L1.b .nil pass0 (pa_cons (pv 2) (pa_cons (pv 5) (pa_cons (pv 12) pa_nil)))) (pe_call L1.G hr3 (by rfl) L1.g L1.kp L1.b .nil pass0 (pa_cons (pv 2) (pa_cons (pv 5) (pa_cons (pv 11) pa_nil)))) (nomark _))) (fun _ _ _ _ _ => pv 12)) (pe_lst pa_nil) (nomark _)) (pss_one (ps_ret pe_bl)) pss_nil))))))))))))))))))
      (pss_one (ps_ret pe_bl)), ?_⟩
    have hml : (ns.map V.int).length = ns.length := List.length_map ..
    refine ⟨_, rfl, a, _, rfl, .inl hS, _, _, rfl, rfl, ⟨by decide, by decide⟩, 1, _, rfl, 8, _, rfl, ?_⟩
    generalize hcnt : (if (if ((ns.map V.int).length : Int) / 3 > 1 then ((ns.map V.int).length : Int) / 3 else 1) < 8 then (if ((ns.map V.int).length : Int) / 3 > 1 then ((ns.map V.int).length : Int) / 3 else 1) else 8) = cnt
    have hc1 : -(2 ^ 62) ≤ cnt ∧ cnt < 2 ^ 62 := by
      rw [← hcnt]
      split <;> split <;> omega
    refine ⟨_, rfl, hc1.1, hc1.2, ?_⟩
    refine for_range (lo := 0) (n := cnt.toNat) (fun i σ H' => ∃ f1 f2 f3 f4 f5 f6 f7 f8 f9 f10 f11 f12 f13 f14 f15 f16 f17 : Option V, σ = [some (.ref a), f1, f2, f3, f4, f5, f6, f7, f8, f9, f10, f11, f12, f13, f14, f15, f16, f17, none] ∧ SmT PT H H')
      ⟨none, none, none, none, none, none, none, none, none, none, none, none, none, none, none, none, none, rfl, SmT.refl hTab⟩ ?_ ?_
    · rintro i σ H0 hi ⟨f1, f2, f3, f4, f5, f6, f7, f8, f9, f10, f11, f12, f13, f14, f15, f16, f17, rfl, s0⟩
      -- tree
      have e0 : (3 * (0 + (i : Int))) = ((3 * i : Nat) : Int) := by omega
      have e1 : (3 * (0 + (i : Int)) + 2) = ((3 * i + 2 : Nat) : Int) := by omega
      have e2 : (3 * (0 + (i : Int)) + 1) = ((3 * i + 1 : Nat) : Int) := by omega
      have hS0 := s0.seq hTab hS
      refine ⟨_, rfl, _, rfl, _, _, rfl, rfl, .inl ⟨by decide, by decide⟩, a, ns, 3 * i, (by rw [← e0]; rfl), hS0, fun H1 v T s1 hT G hTn => ?_⟩
      have hnn : T.ns.length ≤ 1000 := Nat.le_trans G.len (by decide)
      have hnl := names_len T G
      -- names
      refine ⟨v, rfl, v, T, rfl, hT, hnn, fun H2 pn vn s2 hpn0 hpn hN => ?_⟩
      obtain rfl := hN.strs
      have s12 := s1.trans s2
      -- digits
      refine ⟨_, rfl, _, rfl, _, _, rfl, rfl, .inl ⟨by decide, by decide⟩, _, _, rfl, rfl, (by show 2 ≤ sizeLine; decide), fun l3 hl3 => ?_⟩
      have s3 := same_up (o := .lst [V.int 12, V.int 9]) hl3
      refine ⟨a, l3, ns, 3 * i + 2, [12, 9], (by rw [← e1]; rfl), (s12.trans s3).seq hS0, upd_same, by decide, by decide, fun H4 dg ds s4 hdg0 hdg hDr => ?_⟩
      obtain ⟨d0, hd0, b0, c0⟩ := hDr.at (i := 0) (s := 12) rfl
      obtain ⟨d1, hd1, b1, c1⟩ := hDr.at (i := 1) (s := 9) rfl
      have s24 := s3.trans s4
      have hpn4 := s24 _ _ hpn
      -- start
      have hnm : (T.names.map V.str).length = T.names.length := List.length_map ..
      have hnp : 0 < T.names.length := List.length_pos_iff.mpr hTn
      have hm1 : 0 ≤ d0 % (T.names.length : Int) := Int.emod_nonneg _ (by omega)
      have hm2 : d0 % (T.names.length : Int) < (T.names.length : Int) := Int.emod_lt_of_pos _ (by omega)
      obtain ⟨j, hj⟩ : ∃ j : Nat, (j : Int) = d0 % (T.names.length : Int) := ⟨(d0 % (T.names.length : Int)).toNat, by omega⟩
      have hjl : j < T.names.length := by omega
      have hrj : T.names[j]? = some T.names[j] := List.getElem?_eq_getElem hjl
      have hrr : T.names[j] ∈ T.names := List.getElem_mem hjl
      refine ⟨_, rfl, _, rfl, dg, _, _, _, rfl, rfl, SqL.of hdg, atI_nat (j := 0) (map_at hd0), _, rfl, pn, _, rfl, .inl (SqL.of hpn4), _, _, rfl, rfl, (by rw [hnm]; omega), pn, _, _, _, rfl, rfl, SqL.of hpn4, at_of (j := j) (by rw [hnm, hj]) (smap_at hrj), ?_⟩
      generalize hrdef : T.names[j] = r at hrr
      -- wanted
      refine ⟨_, rfl, _, rfl, _, _, rfl, rfl, .inl ⟨by decide, by decide⟩, _, _, rfl, rfl, _, rfl, _, rfl, dg, _, _, _, rfl, rfl, SqL.of hdg, atI_nat (j := 1) (map_at hd1), ?_⟩
      refine ⟨a, pn, ns, 3 * i + 1, T.names, d1, (by rw [← e2]; rfl), (s12.trans s24).seq hS0, hpn4, G.nd, hnl, b1, c1, fun H5 pw wanted s5 hpw0 hpw hwl hww => ?_⟩
      have s05 : SmT PT H H5 := s0.trans (SmT.of s0.2 ((s12.trans s24).trans s5))
      have hT5 : TrAt H5 v T := hT.keep (KT.of ((s2.trans s24).trans s5))
      have hW5 : LAt H5 (.ref pw) wanted := ⟨pw, _, rfl, hpw, AllAt.of_strs _⟩
      have hwl1 : wanted.length ≤ 1000 := by omega
      have t5 := s05.2
      have fine := G.fine hrr hww
      -- around
      refine ⟨v, rfl, _, rfl, _, rfl, T, r, wanted, ⟨⟨v, _, rfl, hT5, hW5⟩, G, hrr, hww, hwl1, t5⟩, fun H6 pa us6 s6 hpa0 hpa hA6 => ?_⟩
      obtain rfl := hA6.strs
      have t6 := s6.2
      -- trip
      refine ⟨v, rfl, _, rfl, _, rfl, T, r, wanted, ⟨⟨v, _, rfl, hT5.keep (s6.kt t5), s6.lat t5 hW5⟩, G, hrr, hww, hwl1, t6⟩, fun H7 pt us7 s7 hpt0 hpt hA7 => ?_⟩
      obtain rfl := hA7.strs
      have t7 := s7.2
      have s57 := s6.trans s7
      -- pairs
      refine ⟨v, rfl, _, rfl, _, rfl, T, r, wanted, ⟨⟨v, _, rfl, hT5.keep (s57.kt t5), s57.lat t5 hW5⟩, G, hrr, hww, hwl1, t7⟩, fun H8 pp us8 s8 hpp0 hpp hA8 => ?_⟩
      have t8 := s8.2
      have s58 := s57.trans s8
      -- told, end
      refine ⟨v, rfl, _, rfl, _, rfl, T, r, wanted, ⟨⟨v, _, rfl, hT5.keep (s58.kt t5), s58.lat t5 hW5⟩, G, hrr, hww, hwl1, t8⟩, fun H9 pe p1 us9 s9 hpe hp10 hp1 hA9 => ?_⟩
      have t9 := s9.2
      have s59 := s58.trans s9
      refine ⟨pe, _, rfl, SqT.of hpe, rfl, _, _, rfl, _, _, rfl, rfl, ?_⟩
      have hT9 := hT5.keep (s59.kt t5)
      have hW9 := s59.lat t5 hW5
      have hpw9 := s59.lst t5 hpw
      have hpa9 := (s7.trans (s8.trans s9)).lst t6 hpa
      have hpt9 := (s8.trans s9).lst t7 hpt
      have hpp9 := s9.lst t8 hpp
      have hA89 := hA8.keep (s9.kt t8)
      have s09 := s05.trans s59
      obtain ⟨ta, hta⟩ := fine.rhd
      obtain ⟨tb, htb⟩ := fine.rlt
      obtain ⟨tc, htc⟩ := fine.thd
      obtain ⟨td, htd⟩ := fine.tlt
      have a1 : ((roundOf T r wanted).map V.str)[0]? = some (.str r) := by rw [hta]; rfl
      have a2 : atI ((roundOf T r wanted).map V.str) (-1) = some (.str r) := by rw [htb, List.map_append]; exact atI_last _ _
      have a3 : ((tripOf T r wanted).map V.str)[0]? = some (.str r) := by rw [htc]; rfl
      have a4 : atI ((tripOf T r wanted).map V.str) (-1) = some (.str (endOf T.es r wanted)) := by rw [htd, List.map_append]; exact atI_last _ _
      have nes : ∀ x : Str, (!decide (V.str x = V.str x)) = false := fun x => by rw [decide_eq_true rfl]; rfl
      -- the first test
      refine ⟨_, rfl, pa, _, _, _, rfl, rfl, SqL.of hpa9, atI_nat (j := 0) a1, _, rfl, rfl, _, rfl, ?_⟩
      rw [nes]
      refine iteF ⟨_, rfl, _, rfl, pa, _, _, _, rfl, rfl, SqL.of hpa9, a2, _, rfl, rfl, _, rfl, ?_⟩
      rw [nes]
      refine iteF ⟨_, rfl, pt, _, _, _, rfl, rfl, SqL.of hpt9, atI_nat (j := 0) a3, _, rfl, rfl, _, rfl, ?_⟩
      rw [nes]
      refine iteF ⟨_, rfl, _, rfl, reason T r wanted, reason T r wanted, ⟨p1, us9, rfl, hp1, hA9⟩, ⟨pp, us8, rfl, hpp9, hA89⟩, (by show max (max 0 0 + 1) 0 + 1 ≤ 30; decide), _, rfl, ?_⟩
      rw [decide_eq_false (fun z => z rfl)]
      refine iteF ⟨_, rfl, _, rfl, pt, _, _, _, rfl, rfl, SqL.of hpt9, a4, _, rfl, rfl, _, rfl, ?_⟩
      rw [nes]
      refine iteF ?_
      -- the second test
      refine ⟨_, rfl, pw, rfl, ⟨_, SqL.of hpw9⟩, fun D2 hD2 => ?_⟩
      refine lc_fmL (K := K) (β := Str) (f := fun _ : Str => none) (SqL.of hpw9) (AllAt.of_strs wanted) hwl1 hD2 (fun x vp H10 Qy Qn hx s10 hat hy hn => ?_) fun H10 ws10 s10 e10 hw10 => ?_
      · obtain rfl := hat
        refine ⟨rfl, _, rfl, _, rfl, x, roundOf T r wanted, rfl, ⟨pa, _, rfl, s10 _ _ hpa9, AllAt.of_strs _⟩, (by show 0 ≤ 30; decide), _, rfl, ?_⟩
        rw [decide_eq_false (fun z => z (fine.rin x hx))]
        refine iteF ⟨_, rfl, _, rfl, x, tripOf T r wanted, rfl, ⟨pt, _, rfl, s10 _ _ hpt9, AllAt.of_strs _⟩, (by show 0 ≤ 30; decide), _, rfl, ?_⟩
        rw [decide_eq_false (fun z => z (fine.tin x hx))]
        exact iteF (hn _ rfl (Same.refl _))
      rw [filterMap_none] at hw10
      refine ⟨Nat.zero_le _, fun l11 hl11 => ?_⟩
      have s11 := same_up (o := .lst []) hl11
      refine ⟨[], [], ⟨D2, ws10, rfl, s11 _ _ e10, hw10.keep (KT.of s11)⟩, ⟨l11, [], rfl, upd_same, True.intro⟩, (by show 0 ≤ 30; decide), _, rfl, ?_⟩
      rw [decide_eq_false (fun z => z rfl)]
      refine iteF ?_
      have s9b := s10.trans s11
      have hpp11 := s9b _ _ hpp9
      have hA811 := hA89.keep (KT.of s9b)
      have hT11 := hT9.keep (KT.of s9b)
      have hW11 := hW9.keep s9b
      have hpw11 := s9b _ _ hpw9
      have hpa11 := s9b _ _ hpa9
      have hpt11 := s9b _ _ hpt9
      have t11 := tabG_same t9 s9b
      have s011 := s09.trans (SmT.of t9 s9b)
      generalize hH11 : upd H10 l11 (.lst []) = H11 at hpp11 hA811 hT11 hW11 hpw11 hpa11 hpt11 t11 s011 ⊢
      -- the third test
      have hrl : (reason T r wanted).length ≤ 1000 := by
        unfold reason
        rw [List.length_map]
        exact Nat.le_trans (needed_len G r wanted) (by decide)
      refine ⟨_, rfl, pp, rfl, ⟨_, SqL.of hpp11⟩, fun D3 hD3 => ?_⟩
      refine lc_fmL (K := K) (f := fun x : (Str × Str) × Str => some x.1) (SqL.of hpp11) hA811 hrl hD3 (fun x vp H12 Qy Qn hx s12' hat hy hn => ?_) fun H12 ws12 s12' e12 hw12 => ?_
      · obtain ⟨tq, va, vb, rfl, htq, hva, rfl⟩ := hat
        exact ⟨tq, _, rfl, SqT.of htq, rfl, _, _, rfl, _, _, rfl, rfl, rfl, _, rfl, hy _ _ _ rfl (Same.refl _) hva⟩
      rw [fm_map] at hw12
      have hrm : (reason T r wanted).map (fun x => x.1) = needed T r wanted := by
        unfold reason
        rw [List.map_map]
        exact List.map_id _
      rw [hrm] at hw12
      refine ⟨v, rfl, _, rfl, _, rfl, v, _, T, r, wanted, rfl, hT11.keep (KT.of s12'), G, hW11.keep s12', hwl1, tabG_same t11 s12', fun H13 p13 us13 s13 hp130 hp13 hA13 => ?_⟩
      have t12 := tabG_same t11 s12'
      refine ⟨needed T r wanted, needed T r wanted, ⟨D3, ws12, rfl, s13.lst t12 e12, hw12.keep (s13.kt t12)⟩, ⟨p13, us13, rfl, hp13, hA13⟩, (by show max 0 0 + 1 ≤ 30; decide), _, rfl, ?_⟩
      rw [decide_eq_false (fun z => z rfl)]
      refine iteF ?_
      -- total = 0; for edge, name in pairs
      have s1113 := (SmT.of t11 s12').trans s13
      have t13 := s13.2
      have hpp13 := s1113.lst t11 hpp11
      have hA813 := hA811.keep (s1113.kt t11)
      have hT13 := hT11.keep (s1113.kt t11)
      have hpw13 := s1113.lst t11 hpw11
      have hpa13 := s1113.lst t11 hpa11
      have hpt13 := s1113.lst t11 hpt11
      have s013 := s011.trans s1113
      refine ⟨_, rfl, pp, rfl, ⟨_, SqL.of hpp13⟩, ?_⟩
      refine for_list (K := K) (a := pp) (xs := us8) (fun n σ H' => ∃ f12 f13 f15 f16 f17 : Option V, σ = [some (.ref a), some (.int (0 + (i : Int))), some v, some (.ref pn), some (.ref dg), some (.str r), some (.ref pw), some (.ref pa), some (.ref pt), some (.ref pp), some (.ref p1), some (.str (endOf T.es r wanted)), f12, f13, some (.int (((reason T r wanted).take n).map fun q => dist T.es q.1.1 q.1.2).sum), f15, f16, f17, none] ∧ Same H13 H')
        ⟨f12, f13, f15, f16, f17, rfl, Same.refl _⟩ (fun n σ H' _ h => ?_) ?_ ?_
      · obtain ⟨_, _, _, _, _, _, s14⟩ := h
        exact SqL.of (s14 _ _ hpp13)
      · rintro n y σ H14 hy ⟨g12, g13, g15, g16, g17, rfl, s14⟩
        obtain ⟨qq, hqi, hat⟩ := (hA813.keep (KT.of s14)).get hy
        obtain ⟨tq, ve, vb, rfl, htq, hve, rfl⟩ := hat
        obtain ⟨te, va, vb2, rfl, hte, rfl, rfl⟩ := id hve
        have hqm : qq ∈ reason T r wanted := List.mem_of_getElem? hqi
        obtain ⟨kk, hkk, hkq⟩ := List.mem_map.mp hqm
        have hq1 : qq.1 = kk := by rw [← hkq]
        have hq2 : qq.2 = minS (inBey T r kk wanted) := by rw [← hkq]
        obtain ⟨ed, hem, _, hek⟩ := mem_needed.mp hkk
        have hdom := G.dom (show Adj T.es ed.a ed.b from ⟨ed, hem, .inl ⟨rfl, rfl⟩⟩)
        have hk1 : qq.1.1 ∈ T.names := by rw [hq1, ← hek]; exact hdom.1
        have hk2 : qq.1.2 ∈ T.names := by rw [hq1, ← hek]; exact hdom.2
        have hT14 := hT13.keep (KT.of s14)
        refine ⟨tq, _, rfl, SqT.of htq, rfl, _, _, rfl, _, _, rfl, rfl, ?_⟩
        -- near, far = sides(..)
        refine ⟨v, rfl, _, rfl, te, _, _, _, rfl, rfl, SqT.of hte, atI_nat (j := 0) rfl, _, rfl, te, _, _, _, rfl, rfl, SqT.of hte, atI_nat (j := 1) rfl, v, T, qq.1.1, qq.1.2, rfl, hT14, G, hk1, hk2, fun H15 p15 p15a p15b s15 hp15 _ _ hp15a hp15b => ?_⟩
        refine ⟨p15, _, rfl, SqT.of hp15, rfl, _, _, rfl, _, _, rfl, rfl, ?_⟩
        -- beyond = sorted([..])
        have hpw15 := s15 _ _ (s14 _ _ hpw13)
        refine ⟨_, rfl, pw, rfl, ⟨_, SqL.of hpw15⟩, fun D4 hD4 => ?_⟩
        refine lc_fmL (K := K) (f := fun x : Str => if (!decide (decide (x ∈ nearOf T qq.1.1 qq.1.2) = decide (r ∈ nearOf T qq.1.1 qq.1.2))) = true then some x else none) (SqL.of hpw15) (AllAt.of_strs wanted) hwl1 hD4 (fun x vp H16 Qy Qn hx s16 hat hyy hn => ?_) fun H16 ws16 s16 e16 hw16 => ?_
        · obtain rfl := hat
          refine ⟨rfl, _, rfl, _, rfl, x, nearOf T qq.1.1 qq.1.2, rfl, ⟨p15a, _, rfl, s16 _ _ hp15a, AllAt.of_strs _⟩, (by show 0 ≤ 30; decide), _, rfl, _, rfl, r, nearOf T qq.1.1 qq.1.2, rfl, ⟨p15a, _, rfl, s16 _ _ hp15a, AllAt.of_strs _⟩, (by show 0 ≤ 30; decide), rfl, _, rfl, ?_⟩
          rw [bl_eq]
          refine ite2 (fun h => ?_) (fun h => ?_)
          · exact ⟨_, rfl, hyy _ _ x (by rw [if_pos h]) (Same.refl _) rfl⟩
          · exact hn _ (by rw [if_neg h]) (Same.refl _)
        rw [fm_filter, inBey_eq hww qq.1, hq1] at hw16
        have hib : (inBey T r kk wanted).length ≤ 1000 := Nat.le_trans (List.length_filter_le _ _) hwl1
        refine ⟨.ref D4, inBey T r kk wanted, rfl, ⟨D4, ws16, rfl, e16, hw16⟩, (by show 0 ≤ 30; decide), hib, sortOk_str, fun D5 ws17 hD5 hW17 => ?_⟩
        obtain ⟨v0, hv0, rfl⟩ := hW17.get' (show (srtF (inBey T r kk wanted))[0]? = some (minS (inBey T r kk wanted)) from srtS_head (inBey_ne hkk))
        refine ⟨_, rfl, _, rfl, D5, _, _, _, rfl, rfl, SqL.of upd_same, atI_nat (j := 0) hv0, rfl, _, rfl, ?_⟩
        rw [hq2, nes]
        refine iteF ?_
        -- total = total + distance(..)
        have s17 := same_up (o := .lst ws17) hD5
        have s1417 := (s15.trans s16).trans s17
        have hte17 := s1417 _ _ hte
        refine ⟨_, rfl, v, rfl, _, rfl, te, _, _, _, rfl, rfl, SqT.of hte17, atI_nat (j := 0) rfl, _, rfl, te, _, _, _, rfl, rfl, SqT.of hte17, atI_nat (j := 1) rfl, v, T, qq.1.1, qq.1.2, rfl, hT14.keep (KT.of s1417), G, hk1, hk2, fun H18 s18 => ?_⟩
        refine ⟨_, _, rfl, rfl, some (.str qq.2), some (.ref te), some (.ref p15a), some (.ref p15b), some (.ref D5), ?_, (s14.trans s1417).trans s18⟩
        rw [List.take_add_one, hqi, List.map_append, List.sum_append]
        show [_, _, _, _, _, _, _, _, _, _, _, _, _, _, some (V.int _), _, _, _, _] = [_, _, _, _, _, _, _, _, _, _, _, _, _, _, some (V.int (_ + (_ + 0))), _, _, _, _]
        rw [Int.add_zero, hq2]
      · rintro σ H14 ⟨g12, g13, g15, g16, g17, rfl, s14⟩
        have htt : (((reason T r wanted).take us8.length).map fun q => dist T.es q.1.1 q.1.2).sum = tot T r wanted := by
          rw [hA8.len, List.take_length]
          unfold tot reason
          rw [List.map_map]
          rfl
        rw [htt]
        have hT14 := hT13.keep (KT.of s14)
        have hwl2 := Nat.le_trans fine.rlen (Nat.le_refl 1000)
        have c1 : (roundOf T r wanted)[0]? = some r := by rw [hta]; rfl
        have c3 : (tripOf T r wanted)[0]? = some r := by rw [htc]; rfl
        have nei : ∀ x : Int, (!decide (V.int x = V.int x)) = false := fun x => by rw [decide_eq_true rfl]; rfl
        -- the lengths
        refine ⟨v, rfl, _, rfl, v, _, T, roundOf T r wanted, r, _, rfl, hT14, G, ⟨pa, _, rfl, s14 _ _ hpa13, AllAt.of_strs _⟩, fine.rlen, c1, hrr, fine.rsm, fun H15 s15 => ?_⟩
        refine ⟨_, rfl, _, _, rfl, rfl, .inl ⟨by decide, by decide⟩, rfl, _, rfl, ?_⟩
        rw [nei]
        have s1415 := s14.trans s15
        refine iteF ⟨v, rfl, _, rfl, v, _, T, tripOf T r wanted, r, _, rfl, hT13.keep (KT.of s1415), G, ⟨pt, _, rfl, s1415 _ _ hpt13, AllAt.of_strs _⟩, fine.tlen, c3, hrr, fine.tsm, fun H16 s16 => ?_⟩
        have s1416 := s1415.trans s16
        refine ⟨_, rfl, _, _, rfl, rfl, .inl ⟨by decide, by decide⟩, v, rfl, _, rfl, _, rfl, v, T, r, endOf T.es r wanted, rfl, hT13.keep (KT.of s1416), G, hrr, fine.ein, fun H17 s17 => ?_⟩
        refine ⟨_, _, rfl, rfl, rfl, _, rfl, ?_⟩
        rw [nei]
        refine iteF ?_
        -- the last test
        have s1417 := s1416.trans s17
        have hpw17 := s1417 _ _ hpw13
        refine ⟨_, rfl, pw, rfl, ⟨_, SqL.of hpw17⟩, fun D6 hD6 => ?_⟩
        refine lc_fmL (K := K) (β := Str) (f := fun _ : Str => none) (SqL.of hpw17) (AllAt.of_strs wanted) hwl1 hD6 (fun x vp H18 Qy Qn hx s18 hat hy hn => ?_) fun H18 ws18 s18 e18 hw18 => ?_
        · obtain rfl := hat
          refine ⟨rfl, v, rfl, _, rfl, _, rfl, v, T, r, x, rfl, hT13.keep (KT.of (s1417.trans s18)), G, hrr, hww x hx, fun H19 s19 => ?_⟩
          refine ⟨v, rfl, _, rfl, _, rfl, v, T, r, endOf T.es r wanted, rfl, hT13.keep (KT.of ((s1417.trans s18).trans s19)), G, hrr, fine.ein, fun H20 s20 => ?_⟩
          refine ⟨_, _, rfl, rfl, _, rfl, ?_⟩
          rw [decide_eq_false (fun z => by have := fine.far x hx; omega)]
          exact iteF (hn _ rfl (s19.trans s20))
        rw [filterMap_none] at hw18
        refine ⟨Nat.zero_le _, fun l19 hl19 => ?_⟩
        have s19 := same_up (o := .lst []) hl19
        refine ⟨[], [], ⟨D6, ws18, rfl, s19 _ _ e18, hw18.keep (KT.of s19)⟩, ⟨l19, [], rfl, upd_same, True.intro⟩, (by show 0 ≤ 30; decide), _, rfl, ?_⟩
        rw [decide_eq_false (fun z => z rfl)]
        refine iteF ?_
        exact ⟨_, _, _, _, _, _, _, _, _, _, _, _, _, _, _, _, _, rfl, s013.trans (SmT.of t13 ((s1417.trans s18).trans s19))⟩
    · rintro σ H' _
      exact q H'
end
end W2
-- text WF
set_option Elab.async false
set_option linter.all false
set_option maxRecDepth 100000
set_option maxHeartbeats 4000000
/-! the row's end; printed by gen_wf.py; own work -/
namespace W2
open PySem PySem.W PyProof.Rows L2 W0 W1 TM
/-- what the head tells of a callee's table -/
abbrev TabSay (q : PySem.Program) (K : PySem.W.Frag) (h : Heap) : Prop := ∀ (dr : DefRec) (x : Str) (c T : Addr), (recsOf q).find? (fun e => e.name == x) = some dr → PySem.W.tabIn K x = some (c, T) → PySem.W.CodeHd h c T ∧ h.get? T = some (PySem.W.tabObj #[])
theorem row_end {l : PySem.W.OpenLaw} {q : PySem.Program} {loose : List Str} {XP : (Str → Option Value) → Heap → Prop} {YP : World → Heap → Prop} {d : DefRec} {K : Params → PySem.W.Frag} (hn : l.most = some 63) (hdf : d.params.defaults = [])
    (hY : ∀ (w : World) (h : Heap), YP w h → (K w.params).In h)
    (F : ∀ (w : World) (mg : Str → Option Value) (fa : Addr) (h : Heap), (K w.params).In h → h.Ns mainGlobals mg → mg d.name = some (.ref fa) → TabSay q (K w.params) h → LamX.LawAtS l w (K w.params) CX0 18 63 "_law_script" mg fa h) :
    PySem.W.WalkO q loose XP YP l.row.toRowW d [] (fun f vs => PySem.call f vs) := by
  refine Att.attach_callB hn hdf ?_
  intro w before now names builtin at_ ob pm cd doc arg vals zs G Y _ _ _ bound list are few bits quiet
  have KX : (K w.params).In now.heap := hY w _ Y
  rcases F w names at_ now.heap KX G.T.g bound (fun dr x c T found at' => PySem.W.tab_of G.T KX found at') with ⟨fd, cs, sp, empty, free, codes, binds, start, holds⟩
  refine LamX.law_callTs KX G.T.g G.T.b G.T.builtins G.T.nolimit quiet empty free codes G.T.bmain list are (Nat.le_trans few (by decide)) ⟨rfl, by decide, by decide⟩ holds binds ?_ fun _ _ _ no => no
  exact fun H tables seq => start H arg zs few bits tables seq
theorem no_table {K : PySem.W.Frag} {h : Heap} {T : Addr} (X : K.In h) (n : PySem.W.noTabs K = true) (g : h.get? T = some (PySem.W.tabObj #[])) : K.lookup T = none := by
  cases e : K.lookup T with
  | none => rfl
  | some ob =>
    have e2 := X T ob e
    rw [g] at e2
    cases e2
    exact absurd (List.all_eq_true.mp n (T, PySem.W.tabObj #[]) (PySem.W.mem_of_lookupK e)) Bool.false_ne_true

theorem all_mk {l : PySem.W.OpenLaw} {q : PySem.Program} {w : World} {K : PySem.W.Frag} {mg : Str → Option Value} {h : Heap} {fa c PT : Addr} {ec : Value} {ed : Option Addr} {tv : Array Value} {tsl : Array (Option Value)}
    {ocN : Value} {odN : Option Addr} {kVN dcN pmN cdN ctN : Value} {anN : Option Addr} {slN : Array (Option Value)} {fN : Addr}
    {ocE : Value} {odE : Option Addr} {kVE dcE pmE cdE ctE : Value} {anE : Option Addr} {slE : Array (Option Value)} {fE : Addr}
    {ocH : Value} {odH : Option Addr} {kVH dcH pmH cdH ctH : Value} {anH : Option Addr} {slH : Array (Option Value)} {fH : Addr}
    {ocL : Value} {odL : Option Addr} {kVL dcL pmL cdL ctL : Value} {anL : Option Addr} {slL : Array (Option Value)} {fL : Addr}
    {ocP : Value} {odP : Option Addr} {kVP dcP pmP cdP ctP : Value} {anP : Option Addr} {slP : Array (Option Value)} {fP : Addr}
    {ocD : Value} {odD : Option Addr} {kVD dcD pmD cdD ctD : Value} {anD : Option Addr} {slD : Array (Option Value)} {fD : Addr}
    {ocS : Value} {odS : Option Addr} {kVS dcS pmS cdS ctS : Value} {anS : Option Addr} {slS : Array (Option Value)} {fS : Addr}
    {ocY : Value} {odY : Option Addr} {kVY dcY pmY cdY ctY : Value} {anY : Option Addr} {slY : Array (Option Value)} {fY : Addr}
    {ocW : Value} {odW : Option Addr} {kVW dcW pmW cdW ctW : Value} {anW : Option Addr} {slW : Array (Option Value)} {fW : Addr}
    {ocK : Value} {odK : Option Addr} {kVK dcK pmK cdK ctK : Value} {anK : Option Addr} {slK : Array (Option Value)} {fK : Addr}
    {ocZ : Value} {odZ : Option Addr} {kVZ dcZ pmZ ctZ : Value} {anZ : Option Addr} {slZ : Array (Option Value)} {fZ : Addr}
    {ocR : Value} {odR : Option Addr} {kVR dcR pmR cdR ctR : Value} {anR : Option Addr} {slR : Array (Option Value)} {fR : Addr}
    {ocX : Value} {odX : Option Addr} {kVX dcX pmX cdX ctX : Value} {anX : Option Addr} {slX : Array (Option Value)} {fX : Addr}
    {ocT : Value} {odT : Option Addr} {kVT dcT pmT cdT ctT : Value} {anT : Option Addr} {slT : Array (Option Value)} {fT : Addr}
    {ocQ : Value} {odQ : Option Addr} {kVQ dcQ pmQ cdQ ctQ : Value} {anQ : Option Addr} {slQ : Array (Option Value)} {fQ : Addr}
    {ocU : Value} {odU : Option Addr} {kVU dcU pmU cdU ctU : Value} {anU : Option Addr} {slU : Array (Option Value)} {fU : Addr}
    {ocC : Value} {odC : Option Addr} {kVC dcC pmC cdC ctC : Value} {anC : Option Addr} {slC : Array (Option Value)} {fC : Addr}
    {ocA : Value} {odA : Option Addr} {kVA dcA pmA cdA ctA : Value} {anA : Option Addr} {slA : Array (Option Value)} {fA : Addr}
    {ocG : Value} {odG : Option Addr} {kVG dcG pmG cdG ctG : Value} {anG : Option Addr} {slG : Array (Option Value)} {fG : Addr}
    {ocM : Value} {odM : Option Addr} {kVM dcM pmM cdM ctM : Value} {anM : Option Addr} {slM : Array (Option Value)} {fM : Addr}
    {ocO : Value} {odO : Option Addr} {kVO dcO pmO cdO ctO : Value} {anO : Option Addr} {slO : Array (Option Value)} {fO : Addr}
    {ocV : Value} {odV : Option Addr} {kVV dcV pmV cdV ctV : Value} {anV : Option Addr} {slV : Array (Option Value)} {fV : Addr}
    (X : K.In h) (Gm : h.Ns mainGlobals mg) (hmg : mg "law" = some (.ref fa)) (TS : TabSay q K h)
    (aN : PySem.W.nsIn K mainGlobals "names_of" = some (some (.ref fN)))
    (lN : K.lookup fN = some ⟨ocN, odN, .func (PySem.W.fnOf "names_of" "names_of" (defArgs sNames) (defBody sNames) (defScope sNames) .none kVN dcN pmN anN cdN ctN), slN⟩)
    (cN : PySem.W.codeIn K cdN "names_of" = true)
    (kN : PySem.W.keepIn K (.ref fN) = true)
    (aE : PySem.W.nsIn K mainGlobals "edge_of" = some (some (.ref fE)))
    (lE : K.lookup fE = some ⟨ocE, odE, .func (PySem.W.fnOf "edge_of" "edge_of" (defArgs sEdgeOf) (defBody sEdgeOf) (defScope sEdgeOf) .none kVE dcE pmE anE cdE ctE), slE⟩)
    (cE : PySem.W.codeIn K cdE "edge_of" = true)
    (kE : PySem.W.keepIn K (.ref fE) = true)
    (aH : PySem.W.nsIn K mainGlobals "neighbors" = some (some (.ref fH)))
    (lH : K.lookup fH = some ⟨ocH, odH, .func (PySem.W.fnOf "neighbors" "neighbors" (defArgs sNbrs) (defBody sNbrs) (defScope sNbrs) .none kVH dcH pmH anH cdH ctH), slH⟩)
    (cH : PySem.W.codeIn K cdH "neighbors" = true)
    (kH : PySem.W.keepIn K (.ref fH) = true)
    (aL : PySem.W.nsIn K mainGlobals "length_between" = some (some (.ref fL)))
    (lL : K.lookup fL = some ⟨ocL, odL, .func (PySem.W.fnOf "length_between" "length_between" (defArgs sLenb) (defBody sLenb) (defScope sLenb) .none kVL dcL pmL anL cdL ctL), slL⟩)
    (cL : PySem.W.codeIn K cdL "length_between" = true)
    (kL : PySem.W.keepIn K (.ref fL) = true)
    (aP : PySem.W.nsIn K mainGlobals "path" = some (some (.ref fP)))
    (lP : K.lookup fP = some ⟨ocP, odP, .func (PySem.W.fnOf "path" "path" (defArgs sPath) (defBody sPath) (defScope sPath) .none kVP dcP pmP anP cdP ctP), slP⟩)
    (cP : PySem.W.codeIn K cdP "path" = true)
    (kP : PySem.W.keepIn K (.ref fP) = true)
    (aD : PySem.W.nsIn K mainGlobals "distance" = some (some (.ref fD)))
    (lD : K.lookup fD = some ⟨ocD, odD, .func (PySem.W.fnOf "distance" "distance" (defArgs sDist) (defBody sDist) (defScope sDist) .none kVD dcD pmD anD cdD ctD), slD⟩)
    (cD : PySem.W.codeIn K cdD "distance" = true)
    (kD : PySem.W.keepIn K (.ref fD) = true)
    (aS : PySem.W.nsIn K mainGlobals "sides" = some (some (.ref fS)))
    (lS : K.lookup fS = some ⟨ocS, odS, .func (PySem.W.fnOf "sides" "sides" (defArgs sSides) (defBody sSides) (defScope sSides) .none kVS dcS pmS anS cdS ctS), slS⟩)
    (cS : PySem.W.codeIn K cdS "sides" = true)
    (kS : PySem.W.keepIn K (.ref fS) = true)
    (aY : PySem.W.nsIn K mainGlobals "side_beyond" = some (some (.ref fY)))
    (lY : K.lookup fY = some ⟨ocY, odY, .func (PySem.W.fnOf "side_beyond" "side_beyond" (defArgs sBeyond) (defBody sBeyond) (defScope sBeyond) .none kVY dcY pmY anY cdY ctY), slY⟩)
    (cY : PySem.W.codeIn K cdY "side_beyond" = true)
    (kY : PySem.W.keepIn K (.ref fY) = true)
    (aW : PySem.W.nsIn K mainGlobals "walk_length" = some (some (.ref fW)))
    (lW : K.lookup fW = some ⟨ocW, odW, .func (PySem.W.fnOf "walk_length" "walk_length" (defArgs sWlen) (defBody sWlen) (defScope sWlen) .none kVW dcW pmW anW cdW ctW), slW⟩)
    (cW : PySem.W.codeIn K cdW "walk_length" = true)
    (kW : PySem.W.keepIn K (.ref fW) = true)
    (aK : PySem.W.nsIn K mainGlobals "walk_from" = some (some (.ref fK)))
    (lK : K.lookup fK = some ⟨ocK, odK, .func (PySem.W.fnOf "walk_from" "walk_from" (defArgs sWalk) (defBody sWalk) (defScope sWalk) .none kVK dcK pmK anK cdK ctK), slK⟩)
    (cK : PySem.W.codeIn K cdK "walk_from" = true)
    (kK : PySem.W.keepIn K (.ref fK) = true)
    (aZ : PySem.W.nsIn K mainGlobals "needed" = some (some (.ref fZ)))
    (lZ : K.lookup fZ = some ⟨ocZ, odZ, .func (PySem.W.fnOf "needed" "needed" (defArgs sNeeded) (defBody sNeeded) (defScope sNeeded) .none kVZ dcZ pmZ anZ (.ref c) ctZ), slZ⟩)
    (cZ : PySem.W.codeIn K (.ref c) "needed" = true)
    (kZ : PySem.W.keepIn K (.ref fZ) = true)
    (aR : PySem.W.nsIn K mainGlobals "round_of" = some (some (.ref fR)))
    (lR : K.lookup fR = some ⟨ocR, odR, .func (PySem.W.fnOf "round_of" "round_of" (defArgs sRound) (defBody sRound) (defScope sRound) .none kVR dcR pmR anR cdR ctR), slR⟩)
    (cR : PySem.W.codeIn K cdR "round_of" = true)
    (kR : PySem.W.keepIn K (.ref fR) = true)
    (aX : PySem.W.nsIn K mainGlobals "end_of" = some (some (.ref fX)))
    (lX : K.lookup fX = some ⟨ocX, odX, .func (PySem.W.fnOf "end_of" "end_of" (defArgs sEnd) (defBody sEnd) (defScope sEnd) .none kVX dcX pmX anX cdX ctX), slX⟩)
    (cX : PySem.W.codeIn K cdX "end_of" = true)
    (kX : PySem.W.keepIn K (.ref fX) = true)
    (aT : PySem.W.nsIn K mainGlobals "trip_of" = some (some (.ref fT)))
    (lT : K.lookup fT = some ⟨ocT, odT, .func (PySem.W.fnOf "trip_of" "trip_of" (defArgs sTrip) (defBody sTrip) (defScope sTrip) .none kVT dcT pmT anT cdT ctT), slT⟩)
    (cT : PySem.W.codeIn K cdT "trip_of" = true)
    (kT : PySem.W.keepIn K (.ref fT) = true)
    (aQ : PySem.W.nsIn K mainGlobals "round_reason" = some (some (.ref fQ)))
    (lQ : K.lookup fQ = some ⟨ocQ, odQ, .func (PySem.W.fnOf "round_reason" "round_reason" (defArgs sReason) (defBody sReason) (defScope sReason) .none kVQ dcQ pmQ anQ cdQ ctQ), slQ⟩)
    (cQ : PySem.W.codeIn K cdQ "round_reason" = true)
    (kQ : PySem.W.keepIn K (.ref fQ) = true)
    (aU : PySem.W.nsIn K mainGlobals "trip_reason" = some (some (.ref fU)))
    (lU : K.lookup fU = some ⟨ocU, odU, .func (PySem.W.fnOf "trip_reason" "trip_reason" (defArgs sTripR) (defBody sTripR) (defScope sTripR) .none kVU dcU pmU anU cdU ctU), slU⟩)
    (cU : PySem.W.codeIn K cdU "trip_reason" = true)
    (kU : PySem.W.keepIn K (.ref fU) = true)
    (aC : PySem.W.nsIn K mainGlobals "_law_cell" = some (some (.ref fC)))
    (lC : K.lookup fC = some ⟨ocC, odC, .func (PySem.W.fnOf "_law_cell" "_law_cell" (defArgs sCell) (defBody sCell) (defScope sCell) .none kVC dcC pmC anC cdC ctC), slC⟩)
    (cC : PySem.W.codeIn K cdC "_law_cell" = true)
    (kC : PySem.W.keepIn K (.ref fC) = true)
    (aA : PySem.W.nsIn K mainGlobals "_law_draw" = some (some (.ref fA)))
    (lA : K.lookup fA = some ⟨ocA, odA, .func (PySem.W.fnOf "_law_draw" "_law_draw" (defArgs sDraw) (defBody sDraw) (defScope sDraw) .none kVA dcA pmA anA cdA ctA), slA⟩)
    (cA : PySem.W.codeIn K cdA "_law_draw" = true)
    (kA : PySem.W.keepIn K (.ref fA) = true)
    (aG : PySem.W.nsIn K mainGlobals "_law_tree" = some (some (.ref fG)))
    (lG : K.lookup fG = some ⟨ocG, odG, .func (PySem.W.fnOf "_law_tree" "_law_tree" (defArgs sTree) (defBody sTree) (defScope sTree) .none kVG dcG pmG anG cdG ctG), slG⟩)
    (cG : PySem.W.codeIn K cdG "_law_tree" = true)
    (kG : PySem.W.keepIn K (.ref fG) = true)
    (aM : PySem.W.nsIn K mainGlobals "_law_names" = some (some (.ref fM)))
    (lM : K.lookup fM = some ⟨ocM, odM, .func (PySem.W.fnOf "_law_names" "_law_names" (defArgs sLNames) (defBody sLNames) (defScope sLNames) .none kVM dcM pmM anM cdM ctM), slM⟩)
    (cM : PySem.W.codeIn K cdM "_law_names" = true)
    (kM : PySem.W.keepIn K (.ref fM) = true)
    (aO : PySem.W.nsIn K mainGlobals "_law_some" = some (some (.ref fO)))
    (lO : K.lookup fO = some ⟨ocO, odO, .func (PySem.W.fnOf "_law_some" "_law_some" (defArgs sSome) (defBody sSome) (defScope sSome) .none kVO dcO pmO anO cdO ctO), slO⟩)
    (cO : PySem.W.codeIn K cdO "_law_some" = true)
    (kO : PySem.W.keepIn K (.ref fO) = true)
    (aV : PySem.W.nsIn K mainGlobals "law" = some (some (.ref fV)))
    (lV : K.lookup fV = some ⟨ocV, odV, .func (PySem.W.fnOf "law" "law" (defArgs sLaw) (defBody sLaw) (defScope sLaw) .none kVV dcV pmV anV cdV ctV), slV⟩)
    (cV : PySem.W.codeIn K cdV "law" = true)
    (kV : PySem.W.keepIn K (.ref fV) = true)
    (tr : ((recsOf q).find? (fun e => e.name == ("needed" : Str))).isSome = true) (tl : K.lookup c = some ⟨ec, ed, .fields tv, tsl⟩) (ti : (tv[11]? : Option Value) = some (.ref PT)) (tn : PySem.W.noTabs K = true)
    (n_sorted : PySem.W.nsIn K mainGlobals "sorted" = some none)
    (n_sum : PySem.W.nsIn K mainGlobals "sum" = some none)
    (n_range : PySem.W.nsIn K mainGlobals "range" = some none)
    (n_len : PySem.W.nsIn K mainGlobals "len" = some none)
    (n_any : PySem.W.nsIn K mainGlobals "any" = some none)
    (n_min : PySem.W.nsIn K mainGlobals "min" = some none)
    (n_max : PySem.W.nsIn K mainGlobals "max" = some none)
    (n_list : PySem.W.nsIn K mainGlobals "list" = some none)
    (n_tuple : PySem.W.nsIn K mainGlobals "tuple" = some none)
    : LamX.LawAtS l w K CX0 18 63 "_law_script" mg fa h := by
  have tb : PySem.W.tabIn K "needed" = some (c, PT) := by
    unfold PySem.W.tabIn
    rw [aZ]
    dsimp only
    rw [lZ]
    dsimp only [PySem.W.fnOf]
    rw [tl]
    dsimp only
    rw [ti]
  obtain ⟨dr, tr⟩ := Option.isSome_iff_exists.mp tr
  obtain ⟨tc, tg⟩ := TS dr _ c PT tr tb
  have nT := no_table X tn tg
  have efa : fV = fa := by
    have z := PySem.W.mg_of X Gm aV
    rw [hmg] at z
    cases z
    rfl
  subst efa
  have B : Bi mg := ⟨PySem.W.mg_none_of X Gm n_sorted, PySem.W.mg_none_of X Gm n_sum, PySem.W.mg_none_of X Gm n_range, PySem.W.mg_none_of X Gm n_len, PySem.W.mg_none_of X Gm n_any, PySem.W.mg_none_of X Gm n_min, PySem.W.mg_none_of X Gm n_max, PySem.W.mg_none_of X Gm n_list, PySem.W.mg_none_of X Gm n_tuple⟩
  have FN := fun_mk (x := "names_of") (qual := "names_of") (st := sNames) lN cN kN
  have bN := FN.binds (ps := ["some_tree"]) fun _ _ _ _ _ _ us hl => match us, hl with | [_], _ => rfl
  have gN := PySem.W.mg_of X Gm aN
  have FE := fun_mk (x := "edge_of") (qual := "edge_of") (st := sEdgeOf) lE cE kE
  have bE := FE.binds (ps := ["one", "other"]) fun _ _ _ _ _ _ us hl => match us, hl with | [_, _], _ => rfl
  have gE := PySem.W.mg_of X Gm aE
  have FH := fun_mk (x := "neighbors") (qual := "neighbors") (st := sNbrs) lH cH kH
  have bH := FH.binds (ps := ["some_tree", "name"]) fun _ _ _ _ _ _ us hl => match us, hl with | [_, _], _ => rfl
  have gH := PySem.W.mg_of X Gm aH
  have FL := fun_mk (x := "length_between") (qual := "length_between") (st := sLenb) lL cL kL
  have bL := FL.binds (ps := ["some_tree", "first", "second"]) fun _ _ _ _ _ _ us hl => match us, hl with | [_, _, _], _ => rfl
  have gL := PySem.W.mg_of X Gm aL
  have FP := fun_mk (x := "path") (qual := "path") (st := sPath) lP cP kP
  have bP := FP.binds (ps := ["some_tree", "first", "second"]) fun _ _ _ _ _ _ us hl => match us, hl with | [_, _, _], _ => rfl
  have gP := PySem.W.mg_of X Gm aP
  have FD := fun_mk (x := "distance") (qual := "distance") (st := sDist) lD cD kD
  have bD := FD.binds (ps := ["some_tree", "first", "second"]) fun _ _ _ _ _ _ us hl => match us, hl with | [_, _, _], _ => rfl
  have gD := PySem.W.mg_of X Gm aD
  have FS := fun_mk (x := "sides") (qual := "sides") (st := sSides) lS cS kS
  have bS := FS.binds (ps := ["some_tree", "first", "second"]) fun _ _ _ _ _ _ us hl => match us, hl with | [_, _, _], _ => rfl
  have gS := PySem.W.mg_of X Gm aS
  have FY := fun_mk (x := "side_beyond") (qual := "side_beyond") (st := sBeyond) lY cY kY
  have bY := FY.binds (ps := ["some_tree", "edge", "start"]) fun _ _ _ _ _ _ us hl => match us, hl with | [_, _, _], _ => rfl
  have gY := PySem.W.mg_of X Gm aY
  have FW := fun_mk (x := "walk_length") (qual := "walk_length") (st := sWlen) lW cW kW
  have bW := FW.binds (ps := ["some_tree", "walk"]) fun _ _ _ _ _ _ us hl => match us, hl with | [_, _], _ => rfl
  have gW := PySem.W.mg_of X Gm aW
  have FK := fun_mk (x := "walk_from") (qual := "walk_from") (st := sWalk) lK cK kK
  have bK := FK.binds (ps := ["some_tree", "edges", "name", "came", "way"]) fun _ _ _ _ _ _ us hl => match us, hl with | [_, _, _, _, _], _ => rfl
  have gK := PySem.W.mg_of X Gm aK
  have FZc : FunC K "needed" "needed" sNeeded fZ _ c := ⟨⟨ocZ, odZ, kVZ, dcZ, pmZ, anZ, ctZ, slZ, rfl, lZ, cZ⟩, kZ⟩
  have FZ := FZc.fun
  have bZ := FZ.binds (ps := ["some_tree", "start", "wanted"]) fun _ _ _ _ _ _ us hl => match us, hl with | [_, _, _], _ => rfl
  have gZ := PySem.W.mg_of X Gm aZ
  have FR := fun_mk (x := "round_of") (qual := "round_of") (st := sRound) lR cR kR
  have bR := FR.binds (ps := ["some_tree", "start", "wanted"]) fun _ _ _ _ _ _ us hl => match us, hl with | [_, _, _], _ => rfl
  have gR := PySem.W.mg_of X Gm aR
  have FX := fun_mk (x := "end_of") (qual := "end_of") (st := sEnd) lX cX kX
  have bX := FX.binds (ps := ["some_tree", "start", "wanted"]) fun _ _ _ _ _ _ us hl => match us, hl with | [_, _, _], _ => rfl
  have gX := PySem.W.mg_of X Gm aX
  have FT := fun_mk (x := "trip_of") (qual := "trip_of") (st := sTrip) lT cT kT
  have bT := FT.binds (ps := ["some_tree", "start", "wanted"]) fun _ _ _ _ _ _ us hl => match us, hl with | [_, _, _], _ => rfl
  have gT := PySem.W.mg_of X Gm aT
  have FQ := fun_mk (x := "round_reason") (qual := "round_reason") (st := sReason) lQ cQ kQ
  have bQ := FQ.binds (ps := ["some_tree", "start", "wanted"]) fun _ _ _ _ _ _ us hl => match us, hl with | [_, _, _], _ => rfl
  have gQ := PySem.W.mg_of X Gm aQ
  have FU := fun_mk (x := "trip_reason") (qual := "trip_reason") (st := sTripR) lU cU kU
  have bU := FU.binds (ps := ["some_tree", "start", "wanted"]) fun _ _ _ _ _ _ us hl => match us, hl with | [_, _, _], _ => rfl
  have gU := PySem.W.mg_of X Gm aU
  have FC := fun_mk (x := "_law_cell") (qual := "_law_cell") (st := sCell) lC cC kC
  have bC := FC.binds (ps := ["_law_script", "_law_k"]) fun _ _ _ _ _ _ us hl => match us, hl with | [_, _], _ => rfl
  have gC := PySem.W.mg_of X Gm aC
  have FA := fun_mk (x := "_law_draw") (qual := "_law_draw") (st := sDraw) lA cA kA
  have bA := FA.binds (ps := ["_law_script", "_law_k", "_law_sizes"]) fun _ _ _ _ _ _ us hl => match us, hl with | [_, _, _], _ => rfl
  have gA := PySem.W.mg_of X Gm aA
  have FG := fun_mk (x := "_law_tree") (qual := "_law_tree") (st := sTree) lG cG kG
  have bG := FG.binds (ps := ["_law_script", "_law_k", "_law_most"]) fun _ _ _ _ _ _ us hl => match us, hl with | [_, _, _], _ => rfl
  have gG := PySem.W.mg_of X Gm aG
  have FM := fun_mk (x := "_law_names") (qual := "_law_names") (st := sLNames) lM cM kM
  have bM := FM.binds (ps := ["_law_tree_here"]) fun _ _ _ _ _ _ us hl => match us, hl with | [_], _ => rfl
  have gM := PySem.W.mg_of X Gm aM
  have FO := fun_mk (x := "_law_some") (qual := "_law_some") (st := sSome) lO cO kO
  have bO := FO.binds (ps := ["_law_script", "_law_k", "_law_names_here", "_law_many"]) fun _ _ _ _ _ _ us hl => match us, hl with | [_, _, _, _], _ => rfl
  have gO := PySem.W.mg_of X Gm aO
  have FV := fun_mk (x := "law") (qual := "law") (st := sLaw) lV cV kV
  refine ⟨PySem.W.fnOf "law" "law" (defArgs sLaw) (defBody sLaw) (defScope sLaw) .none kVV dcV pmV anV cdV ctV, [(c, PT)], spLaw K PT, fun t ht => ?_, fun t ht => ?_, fun t ht => ?_, fun s v => .of_eq rfl, fun H a ns hlen hbits hH hS => ⟨a, ns, rfl, hS, hlen, ⟨#[], hH _ (List.mem_cons_self), trivial⟩, fun _ => rfl⟩, fun base Xb Gb hTb => ?_⟩
  · cases List.mem_singleton.mp ht
    exact tg
  · cases List.mem_singleton.mp ht
    exact nT
  · cases List.mem_singleton.mp ht
    exact tc
  have TB : GxR.TabB base mg c PT := let t := hTb _ (List.mem_cons_self); ⟨t.code, t.bm, t.gP⟩
  have GN := ok_names (P := l.prog) (w := w) (K := K) (mg := mg) (base := base) FN
  have GE := ok_edgeOf (P := l.prog) (w := w) (K := K) (mg := mg) (base := base) FE B
  have GH := ok_nbrs (P := l.prog) (w := w) (K := K) (mg := mg) (base := base) FH B
  have GL := ok_lenb (P := l.prog) (w := w) (K := K) (mg := mg) (base := base) FL B FH bH gH
  have GP := ok_path (P := l.prog) (w := w) (K := K) (mg := mg) (base := base) FP B FH bH gH
  have GD := ok_dist (P := l.prog) (w := w) (K := K) (mg := mg) (base := base) FD B FP bP gP GP FL bL gL GL
  have GS := ok_sides (P := l.prog) (w := w) (K := K) (mg := mg) (base := base) FS B FP bP gP GP FN bN gN
  have GY := ok_beyond (P := l.prog) (w := w) (K := K) (mg := mg) (base := base) FY B FS bS gS GS
  have GW := ok_wlen (P := l.prog) (w := w) (K := K) (mg := mg) (base := base) FW B FE bE gE
  have GK := ok_walk (P := l.prog) (w := w) (K := K) (mg := mg) (base := base) FK B bK gK FH bH gH FE bE gE 14
  have GZ := ok_needed (P := l.prog) (w := w) (K := K) (mg := mg) (base := base) FZc B TB FY bY gY GY
  have GR := ok_round (P := l.prog) (w := w) (K := K) (mg := mg) (base := base) FR FK bK gK GK FZ bZ gZ GZ
  have GX := ok_end (P := l.prog) (w := w) (K := K) (mg := mg) (base := base) FX B FD bD gD GD
  have GT := ok_trip (P := l.prog) (w := w) (K := K) (mg := mg) (base := base) FT FK bK gK GK FZ bZ gZ GZ FP bP gP GP FX bX gX GX
  have GQ := ok_reason (P := l.prog) (w := w) (K := K) (mg := mg) (base := base) FQ B FZ bZ gZ GZ FY bY gY GY
  have GU := ok_tripR (P := l.prog) (w := w) (K := K) (mg := mg) (base := base) FU FQ bQ gQ GQ FX bX gX GX
  have GC := ok_cell (P := l.prog) (w := w) (K := K) (mg := mg) (base := base) FC B
  have GA := ok_draw (P := l.prog) (w := w) (K := K) (mg := mg) (base := base) FA B FC bC gC
  have GG := ok_tree (P := l.prog) (w := w) (K := K) (mg := mg) (base := base) FG B FA bA gA GA
  have GM := ok_lnames (P := l.prog) (w := w) (K := K) (mg := mg) (base := base) FM
  have GO := ok_some (P := l.prog) (w := w) (K := K) (mg := mg) (base := base) FO B FA bA gA GA
  exact ok_law FV B ⟨kG, bG, gG, GG⟩ ⟨kM, bM, gM, GM⟩ ⟨kA, bA, gA, GA⟩ ⟨kO, bO, gO, GO⟩ ⟨kR, bR, gR, GR⟩ ⟨kT, bT, gT, GT⟩ ⟨kQ, bQ, gQ, GQ⟩ ⟨kU, bU, gU, GU⟩ ⟨kZ, bZ, gZ, GZ⟩ ⟨kS, bS, gS, GS⟩ ⟨kD, bD, gD, GD⟩ ⟨kW, bW, gW, GW⟩
end W2
open PySem PySem.W PyProof.Rows
set_option maxRecDepth 100000 in
set_option maxHeartbeats 0 in
theorem PySem.Challenge.cw_treeserved_k55_whole_rounds_and_their_re_holds : PySem.Challenge.rw_treeserved_k55_whole_rounds_and_their_re.Holds := by
  w_on; o_law; k_head; (case hw => w_witness2)
  k_fill
  refine W2.row_end (l := PySem.Challenge.rw_treeserved_k55_whole_rounds_and_their_re) rfl rfl (fun w h Y => PySem.W.kIn_of Y) ?F
  case F =>
    intro w mg fa h KX G hmg TS
    refine' W2.all_mk KX G hmg TS ?aN ?lN ?cN ?kN ?aE ?lE ?cE ?kE ?aH ?lH ?cH ?kH ?aL ?lL ?cL ?kL ?aP ?lP ?cP ?kP ?aD ?lD ?cD ?kD ?aS ?lS ?cS ?kS ?aY ?lY ?cY ?kY ?aW ?lW ?cW ?kW ?aK ?lK ?cK ?kK ?aZ ?lZ ?cZ ?kZ ?aR ?lR ?cR ?kR ?aX ?lX ?cX ?kX ?aT ?lT ?cT ?kT ?aQ ?lQ ?cQ ?kQ ?aU ?lU ?cU ?kU ?aC ?lC ?cC ?kC ?aA ?lA ?cA ?kA ?aG ?lG ?cG ?kG ?aM ?lM ?cM ?kM ?aO ?lO ?cO ?kO ?aV ?lV ?cV ?kV ?tr ?tl ?ti ?tn ?n_sorted ?n_sum ?n_range ?n_len ?n_any ?n_min ?n_max ?n_list ?n_tuple
    (case aN => k_is)
    (case lN => k_is)
    (case cN => k_is)
    (case kN => k_is)
    (case aE => k_is)
    (case lE => k_is)
    (case cE => k_is)
    (case kE => k_is)
    (case aH => k_is)
    (case lH => k_is)
    (case cH => k_is)
    (case kH => k_is)
    (case aL => k_is)
    (case lL => k_is)
    (case cL => k_is)
    (case kL => k_is)
    (case aP => k_is)
    (case lP => k_is)
    (case cP => k_is)
    (case kP => k_is)
    (case aD => k_is)
    (case lD => k_is)
    (case cD => k_is)
    (case kD => k_is)
    (case aS => k_is)
    (case lS => k_is)
    (case cS => k_is)
    (case kS => k_is)
    (case aY => k_is)
    (case lY => k_is)
    (case cY => k_is)
    (case kY => k_is)
    (case aW => k_is)
    (case lW => k_is)
    (case cW => k_is)
    (case kW => k_is)
    (case aK => k_is)
    (case lK => k_is)
    (case cK => k_is)
    (case kK => k_is)
    (case aZ => k_is)
    (case lZ => k_is)
    (case cZ => k_is)
    (case kZ => k_is)
    (case aR => k_is)
    (case lR => k_is)
    (case cR => k_is)
    (case kR => k_is)
    (case aX => k_is)
    (case lX => k_is)
    (case cX => k_is)
    (case kX => k_is)
    (case aT => k_is)
    (case lT => k_is)
    (case cT => k_is)
    (case kT => k_is)
    (case aQ => k_is)
    (case lQ => k_is)
    (case cQ => k_is)
    (case kQ => k_is)
    (case aU => k_is)
    (case lU => k_is)
    (case cU => k_is)
    (case kU => k_is)
    (case aC => k_is)
    (case lC => k_is)
    (case cC => k_is)
    (case kC => k_is)
    (case aA => k_is)
    (case lA => k_is)
    (case cA => k_is)
    (case kA => k_is)
    (case aG => k_is)
    (case lG => k_is)
    (case cG => k_is)
    (case kG => k_is)
    (case aM => k_is)
    (case lM => k_is)
    (case cM => k_is)
    (case kM => k_is)
    (case aO => k_is)
    (case lO => k_is)
    (case cO => k_is)
    (case kO => k_is)
    (case aV => k_is)
    (case lV => k_is)
    (case cV => k_is)
    (case kV => k_is)
    (case tl => k_is)
    (case ti => rfl)
    (case tr => kernel_rfl)
    (case tn => kernel_rfl)
    (case n_sorted => k_is)
    (case n_sum => k_is)
    (case n_range => k_is)
    (case n_len => k_is)
    (case n_any => k_is)
    (case n_min => k_is)
    (case n_max => k_is)
    (case n_list => k_is)
    (case n_tuple => k_is)
#print axioms PySem.Challenge.cw_treeserved_k55_whole_rounds_and_their_re_holds
