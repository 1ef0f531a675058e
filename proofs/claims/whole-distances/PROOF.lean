import PyProof.Rows.All
import Wide.All
import OpenK.AllK
import Wide.FinOn
import HandS.ForMost
import HandS.IsInst
import HandS.Wide
import KE.KDictKeyed
import KE.KeyNested
import KE.KDictDisplayH
import KE.KEqDeep
import PySem.Challenge.RW_turnedtrees_k03_whole_distances
set_option Elab.async false
set_option linter.all false
set_option maxRecDepth 100000
set_option maxHeartbeats 2000000

/-! KM1 -/
namespace TT

/-! ### rows of ints in order -/
def lexLt : List Int → List Int → Prop
  | x :: xs, y :: ys => x < y ∨ (x = y ∧ lexLt xs ys)
  | _, _ => False
theorem lexLt_irr : ∀ r : List Int, ¬ lexLt r r
  | [], h => h
  | x :: xs, h => by
    rcases h with h | ⟨_, h⟩
    · omega
    · exact lexLt_irr xs h
theorem lexLt_trans : ∀ a b c : List Int, lexLt a b → lexLt b c → lexLt a c
  | [], _, _, h, _ => h.elim
  | _ :: _, [], _, h, _ => h.elim
  | _ :: _, _ :: _, [], _, h => h.elim
  | x :: xs, y :: ys, z :: zs, h1, h2 => by
    rcases h1 with h1 | ⟨e1, h1⟩ <;> rcases h2 with h2 | ⟨e2, h2⟩
    · exact Or.inl (by omega)
    · exact Or.inl (by omega)
    · exact Or.inl (by omega)
    · exact Or.inr ⟨by omega, lexLt_trans xs ys zs h1 h2⟩
theorem lexLt_tri : ∀ a b : List Int, a.length = b.length → lexLt a b ∨ a = b ∨ lexLt b a
  | [], [], _ => Or.inr (Or.inl rfl)
  | [], _ :: _, h => by simp at h
  | _ :: _, [], h => by simp at h
  | x :: xs, y :: ys, h => by
    have hl : xs.length = ys.length := by simpa using h
    by_cases h1 : x < y
    · exact Or.inl (Or.inl h1)
    · by_cases h2 : y < x
      · exact Or.inr (Or.inr (Or.inl h2))
      · have e : x = y := by omega
        rcases lexLt_tri xs ys hl with q | q | q
        · exact Or.inl (Or.inr ⟨e, q⟩)
        · exact Or.inr (Or.inl (by rw [e, q]))
        · exact Or.inr (Or.inr (Or.inr ⟨e.symm, q⟩))
theorem lexLt_app : ∀ (a b c d : List Int), lexLt a b → lexLt (a ++ c) (b ++ d)
  | [], _, _, _, h => h.elim
  | _ :: _, [], _, _, h => h.elim
  | x :: xs, y :: ys, c, d, h => by
    rcases h with h | ⟨e, h⟩
    · exact Or.inl h
    · exact Or.inr ⟨e, lexLt_app xs ys c d h⟩
theorem lexLt_pre : ∀ (a c d : List Int), lexLt c d → lexLt (a ++ c) (a ++ d)
  | [], _, _, h => h
  | _ :: xs, c, d, h => Or.inr ⟨rfl, lexLt_pre xs c d h⟩

/-! ### a graph by its neighbours, each with its key -/
section
variable {α : Type} (nb : α → List (Int × α))
inductive Path : α → List Int → α → Prop
  | nil (s : α) : Path s [] s
  | cons {s u t : α} {k : Int} {r : List Int} : (k, u) ∈ nb s → Path u r t → Path s (k :: r) t
variable {nb}
theorem Path.app {s u t : α} {r q : List Int} (h : Path nb s r u) (g : Path nb u q t) : Path nb s (r ++ q) t := by
  induction h with
  | nil => exact g
  | cons m _ ih => exact .cons m (ih g)
theorem Path.snoc {s u t : α} {r : List Int} {k : Int} (h : Path nb s r u) (m : (k, t) ∈ nb u) : Path nb s (r ++ [k]) t := h.app (.cons m (.nil t))
theorem Path.split {s t : α} : ∀ {r q : List Int}, Path nb s (r ++ q) t → ∃ u, Path nb s r u ∧ Path nb u q t := by
  intro r
  induction r generalizing s with
  | nil => exact fun h => ⟨s, .nil s, h⟩
  | cons k r ih =>
    intro q h
    cases h with
    | cons m h =>
      obtain ⟨u, h1, h2⟩ := ih h
      exact ⟨u, .cons m h1, h2⟩
theorem Path.unsnoc {s t : α} {r : List Int} {k : Int} (h : Path nb s (r ++ [k]) t) : ∃ u, Path nb s r u ∧ (k, t) ∈ nb u := by
  obtain ⟨u, h1, h2⟩ := h.split
  cases h2 with
  | cons m h2 => cases h2; exact ⟨u, h1, m⟩
theorem Path.zero {s t : α} {r : List Int} (h : Path nb s r t) (e : r.length = 0) : s = t := by
  cases h with
  | nil => rfl
  | cons => simp at e
theorem snoc_of {r : List Int} {n : Nat} (e : r.length = n + 1) : ∃ q k, r = q ++ [k] ∧ q.length = n := by
  have hne : r ≠ [] := by intro z; rw [z] at e; simp at e
  refine ⟨r.dropLast, r.getLast hne, (List.dropLast_concat_getLast hne).symm, ?_⟩
  rw [List.length_dropLast, e]; rfl

variable (nb)
/-- the distance -/
def Dst (s t : α) (n : Nat) : Prop := (∃ r, Path nb s r t ∧ r.length = n) ∧ ∀ r, Path nb s r t → n ≤ r.length
variable {nb}
theorem Dst.uniq {s t : α} {n m : Nat} (h : Dst nb s t n) (g : Dst nb s t m) : n = m := by
  obtain ⟨⟨r, p, e⟩, l⟩ := h
  obtain ⟨⟨r', p', e'⟩, l'⟩ := g
  have := l r' p'
  have := l' r p
  omega
theorem Dst.ex {s t : α} : ∀ (n : Nat) (r : List Int), r.length = n → Path nb s r t → ∃ m, m ≤ n ∧ Dst nb s t m := by
  intro n
  induction n using Nat.strongRecOn with
  | ind n ih =>
    intro r e p
    by_cases h : ∃ q, Path nb s q t ∧ q.length < n
    · obtain ⟨q, pq, hq⟩ := h
      obtain ⟨m, hm, d⟩ := ih q.length hq q rfl pq
      exact ⟨m, by omega, d⟩
    · refine ⟨n, Nat.le_refl n, ⟨r, p, e⟩, fun q pq => ?_⟩
      have : ¬ q.length < n := fun z => h ⟨q, pq, z⟩
      omega
theorem Path.dst {s t : α} {r : List Int} (p : Path nb s r t) : ∃ m, m ≤ r.length ∧ Dst nb s t m := Dst.ex _ r rfl p
theorem Dst.self (s : α) : Dst nb s s 0 := ⟨⟨[], .nil s, rfl⟩, fun _ _ => Nat.zero_le _⟩
theorem Dst.zero {s t : α} (h : Dst nb s t 0) : s = t := let ⟨⟨_, p, e⟩, _⟩ := h; p.zero e
/-- the last step of a shortest way -/
theorem Dst.back {s t : α} {n : Nat} (h : Dst nb s t (n + 1)) : ∃ u k, Dst nb s u n ∧ (k, t) ∈ nb u := by
  obtain ⟨⟨r, p, e⟩, l⟩ := h
  obtain ⟨q, k, rfl, hq⟩ := snoc_of e
  obtain ⟨u, pu, m⟩ := p.unsnoc
  refine ⟨u, k, ⟨⟨q, pu, hq⟩, fun q' p' => ?_⟩, m⟩
  have := l _ (p'.snoc m)
  simp at this
  omega
/-- the first step -/
theorem Dst.fwd {s t : α} {n : Nat} (h : Dst nb s t (n + 1)) : ∃ k u, (k, u) ∈ nb s ∧ Dst nb u t n := by
  obtain ⟨⟨r, p, e⟩, l⟩ := h
  cases p with
  | nil => simp at e
  | @cons _ u _ k q m p =>
    refine ⟨k, u, m, ⟨q, p, by simpa using e⟩, fun q' p' => ?_⟩
    have := l _ (.cons m p')
    simp at this
    omega
theorem Dst.step {s t u : α} {n m : Nat} {k : Int} (h : Dst nb s t n) (e : (k, u) ∈ nb s) (g : Dst nb u t m) : n ≤ m + 1 := by
  obtain ⟨⟨r, p, hr⟩, _⟩ := g
  have := h.2 _ (.cons e p)
  simp at this
  omega
theorem Dst.tri {s u t : α} {a b c : Nat} (h : Dst nb s t c) (g : Dst nb s u a) (g' : Dst nb u t b) : c ≤ a + b := by
  obtain ⟨⟨r, p, hr⟩, _⟩ := g
  obtain ⟨⟨r', p', hr'⟩, _⟩ := g'
  have := h.2 _ (p.app p')
  rw [List.length_append] at this
  omega

/-! ### the first of the shortest rows -/
variable (nb)
def IsMin (s t : α) (r : List Int) : Prop := Path nb s r t ∧ ∀ r', Path nb s r' t → r.length ≤ r'.length ∧ (r'.length = r.length → ¬ lexLt r' r)
/-- the keys of the neighbours ascend -/
def Asc : Prop := ∀ s, (nb s).Pairwise fun p q => p.1 < q.1
inductive Greedy : α → α → List Int → Prop
  | nil (t : α) : Greedy t t []
  | cons {s t u : α} {k : Int} {r : List Int} {d : Nat} {pre post : List (Int × α)} : nb s = pre ++ (k, u) :: post → Dst nb s t (d + 1) → Dst nb u t d → (∀ p ∈ pre, ¬ Dst nb p.2 t d) → Greedy u t r → Greedy s t (k :: r)
variable {nb}
theorem IsMin.uniq {s t : α} {r q : List Int} (h : IsMin nb s t r) (g : IsMin nb s t q) : r = q := by
  have h1 := (h.2 q g.1)
  have g1 := (g.2 r h.1)
  have e : r.length = q.length := by omega
  rcases lexLt_tri r q e with z | z | z
  · exact absurd z (g1.2 e)
  · exact z
  · exact absurd z (h1.2 e.symm)
theorem IsMin.dst {s t : α} {r : List Int} (h : IsMin nb s t r) : Dst nb s t r.length := ⟨⟨r, h.1, rfl⟩, fun q p => (h.2 q p).1⟩
theorem Greedy.path {s t : α} {r : List Int} (g : Greedy nb s t r) : Path nb s r t := by
  induction g with
  | nil t => exact .nil t
  | cons e _ _ _ _ ih => exact .cons (by rw [e]; simp) ih
theorem Greedy.dst {s t : α} {r : List Int} (g : Greedy nb s t r) : Dst nb s t r.length := by
  cases g with
  | nil => exact Dst.self _
  | @cons s t u k r d pre post e h1 h2 h3 g =>
    have q : ∀ {s t : α} {r : List Int}, Greedy nb s t r → ∀ n, Dst nb s t n → r.length = n := by
      intro s t r g
      induction g with
      | nil t => exact fun n h => (Dst.self t).uniq h
      | cons e h1 h2 h3 g ih =>
        intro n h
        have := ih _ h2
        have := h1.uniq h
        simp; omega
    have e2 : (k :: r).length = d + 1 := by
      have := q g _ h2
      simp; omega
    rw [e2]; exact h1
theorem Greedy.min (asc : Asc nb) {s t : α} {r : List Int} (g : Greedy nb s t r) : IsMin nb s t r := by
  induction g with
  | nil t => exact ⟨.nil t, fun r' _ => ⟨Nat.zero_le _, fun e => by
      have : r' = [] := List.eq_nil_of_length_eq_zero e
      subst this
      exact fun z => z⟩⟩
  | @cons s t u k r d pre post e h1 h2 h3 g ih =>
    have el : r.length = d := by
      have := g.dst
      exact this.uniq h2
    refine ⟨.cons (by rw [e]; simp) ih.1, fun r' p' => ?_⟩
    have hl : d + 1 ≤ r'.length := h1.2 r' p'
    refine ⟨by simp; omega, fun e2 z => ?_⟩
    cases p' with
    | nil => simp at e2
    | @cons _ u' _ k' r'' m p' =>
      have e3 : r''.length = d := by simp at e2; omega
      have hd : Dst nb u' t d := ⟨⟨r'', p', e3⟩, fun q pq => by
        have := h1.2 _ (.cons m pq)
        simp at this; omega⟩
      have hs := asc s
      rw [e] at hs m
      rcases List.mem_append.mp m with m | m
      · exact h3 _ m hd
      · rcases List.mem_cons.mp m with m | m
        · have m1 : k' = k := congrArg Prod.fst m
          have m2 : u' = u := congrArg Prod.snd m
          subst m1 m2
          rcases z with z | ⟨_, z⟩
          · omega
          · exact (ih.2 _ p').2 (by omega) z
        · have hk : k < k' := by
            have := (List.pairwise_cons.mp (List.pairwise_append.mp hs).2.1).1 _ m
            exact this
          rcases z with z | ⟨z, _⟩ <;> omega
/-- the first element with a property -/
theorem first_split {β : Type} (P : β → Prop) : ∀ l : List β, (∃ x ∈ l, P x) → ∃ pre x post, l = pre ++ x :: post ∧ P x ∧ ∀ y ∈ pre, ¬ P y
  | [], h => by obtain ⟨x, hx, _⟩ := h; cases hx
  | a :: l, h => by
    by_cases ha : P a
    · exact ⟨[], a, l, rfl, ha, fun y hy => by cases hy⟩
    · obtain ⟨x, hx, px⟩ := h
      have hx' : x ∈ l := by
        rcases List.mem_cons.mp hx with e | q
        · subst e; exact absurd px ha
        · exact q
      obtain ⟨pre, y, post, e, py, n⟩ := first_split P l ⟨x, hx', px⟩
      refine ⟨a :: pre, y, post, by rw [e]; rfl, py, fun z hz => ?_⟩
      rcases List.mem_cons.mp hz with e | q
      · subst e; exact ha
      · exact n z q
theorem Greedy.ex {t : α} : ∀ (n : Nat) (s : α), Dst nb s t n → ∃ r, Greedy nb s t r
  | 0, s, h => by
    have := h.zero
    subst this
    exact ⟨[], .nil s⟩
  | n + 1, s, h => by
    obtain ⟨k0, u0, m0, d0⟩ := h.fwd
    obtain ⟨pre, p, post, e, hp, hn⟩ := first_split (fun p : Int × α => Dst nb p.2 t n) (nb s) ⟨(k0, u0), m0, d0⟩
    obtain ⟨r, g⟩ := Greedy.ex n p.2 hp
    exact ⟨p.1 :: r, .cons e h hp hn g⟩
theorem IsMin.ex (asc : Asc nb) {s t : α} {n : Nat} (h : Dst nb s t n) : ∃ r, IsMin nb s t r ∧ r.length = n := by
  obtain ⟨r, g⟩ := Greedy.ex n s h
  exact ⟨r, g.min asc, g.dst.uniq h⟩
theorem IsMin.init {s t : α} {r : List Int} {k : Int} (h : IsMin nb s t (r ++ [k])) : ∃ u, IsMin nb s u r ∧ (k, t) ∈ nb u := by
  obtain ⟨u, p, m⟩ := h.1.unsnoc
  refine ⟨u, ⟨p, fun r' p' => ?_⟩, m⟩
  have q := h.2 _ (p'.snoc m)
  simp at q
  refine ⟨q.1, fun e z => ?_⟩
  exact q.2 e (lexLt_app _ _ _ _ z)

/-! ### distances are bounded by the number of nodes -/
theorem Dst.chain {s : α} : ∀ (n : Nat) (t : α), Dst nb s t n → ∃ l : List α, l.length = n + 1 ∧ l.Nodup ∧ ∀ x ∈ l, ∃ m, m ≤ n ∧ Dst nb s x m
  | 0, t, h => ⟨[t], rfl, by simp, fun x hx => by simp at hx; subst hx; exact ⟨0, Nat.le_refl _, h⟩⟩
  | n + 1, t, h => by
    obtain ⟨u, k, hu, m⟩ := h.back
    obtain ⟨l, e, nd, q⟩ := Dst.chain n u hu
    refine ⟨t :: l, by simp [e], List.nodup_cons.mpr ⟨fun hm => ?_, nd⟩, fun x hx => ?_⟩
    · obtain ⟨m, hm, d⟩ := q t hm
      have := d.uniq h
      omega
    · rcases List.mem_cons.mp hx with e | hx
      · subst e; exact ⟨n + 1, Nat.le_refl _, h⟩
      · obtain ⟨m, hm, d⟩ := q x hx
        exact ⟨m, by omega, d⟩
end
theorem nodup_len {α : Type} [DecidableEq α] : ∀ (l m : List α), l.Nodup → (∀ x ∈ l, x ∈ m) → l.length ≤ m.length
  | [], _, _, _ => Nat.zero_le _
  | a :: l, m, nd, h => by
    obtain ⟨h1, h2⟩ := List.nodup_cons.mp nd
    have ha : a ∈ m := h a List.mem_cons_self
    have q := nodup_len l (m.erase a) h2 fun x hx => by
      refine (List.mem_erase_of_ne ?_).mpr (h x (List.mem_cons_of_mem _ hx))
      intro e; subst e; exact h1 hx
    rw [List.length_erase_of_mem ha] at q
    have : 0 < m.length := List.length_pos_of_mem ha
    simp; omega
end TT


/-! KM2 -/
namespace TT
section
variable {α : Type} [DecidableEq α] {nb : α → List (Int × α)}

/-! ### ways_from: level by level -/
variable (nb)
structure Lvl (s : α) (n : Nat) (found : List (α × Nat)) (level : List α) : Prop where
  fnd : ∀ t m, (t, m) ∈ found ↔ Dst nb s t m ∧ m ≤ n
  nod : (found.map (·.1)).Nodup
  lev : ∀ t, t ∈ level ↔ Dst nb s t n
structure Inn (s : α) (n : Nat) (old : List (α × Nat)) (vis : List α) (found : List (α × Nat)) (later : List α) : Prop where
  eq : found = old ++ later.map fun t => (t, n + 1)
  nod : (found.map (·.1)).Nodup
  lat : ∀ t, t ∈ later ↔ t ∈ vis ∧ ¬ ∃ m, m ≤ n ∧ Dst nb s t m
  rch : ∀ t, t ∈ later → ∃ r, Path nb s r t
/-- what is handed back -/
def Ways (s : α) (found : List (α × Nat)) : Prop := (∀ t m, (t, m) ∈ found ↔ Dst nb s t m) ∧ (found.map (·.1)).Nodup
variable {nb}
theorem Lvl.start (s : α) : Lvl nb s 0 [(s, 0)] [s] where
  fnd := fun t m => by
    constructor
    · intro h
      have e : (t, m) = (s, 0) := by simpa using h
      cases e
      exact ⟨Dst.self s, Nat.le_refl _⟩
    · rintro ⟨d, hm⟩
      have e : m = 0 := by omega
      subst e
      have := d.zero
      subst this
      simp
  nod := by simp
  lev := fun t => by
    constructor
    · intro h
      have e : t = s := by simpa using h
      subst e
      exact Dst.self t
    · intro d
      have := d.zero
      subst this
      simp
variable {s : α} {n : Nat} {found old : List (α × Nat)} {level later vis : List α}
theorem Lvl.inn (h : Lvl nb s n found level) : Inn nb s n found [] found [] :=
  ⟨by simp, h.nod, fun t => by simp, fun t ht => by cases ht⟩
theorem Inn.old_of (L : Lvl nb s n old level) (h : Inn nb s n old vis found later) {t : α} (ht : t ∈ level) : (t, n) ∈ found := by
  rw [h.eq]
  exact List.mem_append_left _ ((L.fnd t n).mpr ⟨(L.lev t).mp ht, Nat.le_refl _⟩)
theorem Inn.key (L : Lvl nb s n old level) (h : Inn nb s n old vis found later) {t : α} : t ∈ found.map (·.1) ↔ (∃ m, m ≤ n ∧ Dst nb s t m) ∨ t ∈ later := by
  rw [h.eq, List.map_append, List.mem_append]
  constructor
  · rintro (q | q)
    · obtain ⟨⟨a, m⟩, hp, e⟩ := List.mem_map.mp q
      have e : a = t := e
      subst e
      obtain ⟨d, hm⟩ := (L.fnd a m).mp hp
      exact Or.inl ⟨m, hm, d⟩
    · right
      simpa using q
  · rintro (⟨m, hm, d⟩ | q)
    · exact Or.inl (List.mem_map.mpr ⟨(t, m), (L.fnd t m).mpr ⟨d, hm⟩, rfl⟩)
    · right
      simpa using q
/-- a neighbour that stands there -/
theorem Inn.skip (L : Lvl nb s n old level) (h : Inn nb s n old vis found later) {t : α} (ht : t ∈ found.map (·.1)) : Inn nb s n old (vis ++ [t]) found later where
  eq := h.eq
  nod := h.nod
  rch := h.rch
  lat := fun u => by
    rw [h.lat u, List.mem_append]
    constructor
    · rintro ⟨a, b⟩
      exact ⟨Or.inl a, b⟩
    · rintro ⟨a | a, b⟩
      · exact ⟨a, b⟩
      · have e : u = t := by simpa using a
        subst e
        rcases (h.key L).mp ht with q | q
        · exact absurd q b
        · exact (h.lat u).mp q
/-- a new neighbour -/
theorem Inn.push (L : Lvl nb s n old level) (h : Inn nb s n old vis found later) {u t : α} {k : Int} (hu : u ∈ level) (hk : (k, t) ∈ nb u) (ht : ¬ t ∈ found.map (·.1)) : Inn nb s n old (vis ++ [t]) (found ++ [(t, n + 1)]) (later ++ [t]) where
  eq := by rw [h.eq, List.map_append, List.append_assoc]; rfl
  nod := by
    rw [List.map_append]
    refine List.nodup_append.mpr ⟨h.nod, by simp, fun a ha b hb e => ?_⟩
    have e2 : b = t := by simpa using hb
    subst e e2
    exact ht ha
  rch := fun v hv => by
    rcases List.mem_append.mp hv with q | q
    · exact h.rch v q
    · have e : v = t := by simpa using q
      subst e
      obtain ⟨⟨r, p, _⟩, _⟩ := (L.lev u).mp hu
      exact ⟨_, p.snoc hk⟩
  lat := fun v => by
    rw [List.mem_append, List.mem_append, h.lat v]
    constructor
    · rintro (⟨a, b⟩ | a)
      · exact ⟨Or.inl a, b⟩
      · have e : v = t := by simpa using a
        subst e
        exact ⟨Or.inr (by simp), fun z => ht ((h.key L).mpr (Or.inl z))⟩
    · rintro ⟨a | a, b⟩
      · exact Or.inl ⟨a, b⟩
      · exact Or.inr a
/-- behind the level -/
theorem Inn.done (L : Lvl nb s n old level) (h : Inn nb s n old (level.flatMap fun u => (nb u).map (·.2)) found later) : Lvl nb s (n + 1) found later := by
  have lat : ∀ t, t ∈ later ↔ Dst nb s t (n + 1) := fun t => by
    rw [h.lat t]
    constructor
    · rintro ⟨a, b⟩
      obtain ⟨u, hu, hm⟩ := List.mem_flatMap.mp a
      obtain ⟨⟨k, t'⟩, hk, e⟩ := List.mem_map.mp hm
      have e : t' = t := e
      subst e
      obtain ⟨⟨r, p, er⟩, _⟩ := (L.lev u).mp hu
      have p2 := p.snoc hk
      refine ⟨⟨_, p2, by simp [er]⟩, fun q pq => ?_⟩
      obtain ⟨m, hm, d⟩ := pq.dst
      have : ¬ m ≤ n := fun z => b ⟨m, z, d⟩
      omega
    · intro d
      obtain ⟨u, k, du, hk⟩ := d.back
      refine ⟨List.mem_flatMap.mpr ⟨u, (L.lev u).mpr du, List.mem_map.mpr ⟨(k, t), hk, rfl⟩⟩, ?_⟩
      rintro ⟨m, hm, d'⟩
      have := d.uniq d'
      omega
  refine ⟨fun t m => ?_, h.nod, lat⟩
  rw [h.eq, List.mem_append]
  constructor
  · rintro (q | q)
    · obtain ⟨d, hm⟩ := (L.fnd t m).mp q
      exact ⟨d, by omega⟩
    · obtain ⟨t', ht', e⟩ := List.mem_map.mp q
      cases e
      exact ⟨(lat t).mp ht', Nat.le_refl _⟩
  · rintro ⟨d, hm⟩
    by_cases e : m = n + 1
    · subst e
      exact Or.inr (List.mem_map.mpr ⟨t, (lat t).mpr d, rfl⟩)
    · exact Or.inl ((L.fnd t m).mpr ⟨d, by omega⟩)
theorem Lvl.ways (h : Lvl nb s n found []) : Ways nb s found := by
  have none_n : ∀ t, ¬ Dst nb s t n := fun t d => by
    have := (h.lev t).mpr d
    cases this
  have far : ∀ j t, ¬ Dst nb s t (n + j) := by
    intro j
    induction j with
    | zero => exact none_n
    | succ j ih =>
      intro t d
      obtain ⟨u, k, du, _⟩ := Dst.back (n := n + j) d
      exact ih u du
  refine ⟨fun t m => ?_, h.nod⟩
  rw [h.fnd t m]
  constructor
  · exact fun q => q.1
  · intro d
    refine ⟨d, ?_⟩
    by_cases e : m ≤ n
    · exact e
    · obtain ⟨j, rfl⟩ : ∃ j, m = n + j := ⟨m - n, by omega⟩
      exact absurd d (far j t)
/-- how many there can be -/
theorem Inn.size (L : Lvl nb s n old level) (h : Inn nb s n old vis found later) {all : List α} (ha : ∀ t r, Path nb s r t → t ∈ all) : found.length ≤ all.length ∧ found.length = old.length + later.length := by
  refine ⟨?_, by rw [h.eq]; simp⟩
  have q := nodup_len _ all h.nod fun t ht => by
    rcases (h.key L).mp ht with ⟨m, _, ⟨⟨r, p, _⟩, _⟩⟩ | z
    · exact ha t r p
    · obtain ⟨r, p⟩ := h.rch t z
      exact ha t r p
  simpa using q
theorem Lvl.size (L : Lvl nb s n found level) {all : List α} (ha : ∀ t r, Path nb s r t → t ∈ all) : found.length ≤ all.length := (L.inn.size L ha).1
theorem Dst.small {t : α} (h : Dst nb s t n) {all : List α} (ha : ∀ t r, Path nb s r t → t ∈ all) : n < all.length := by
  obtain ⟨l, e, nd, q⟩ := Dst.chain n t h
  have := nodup_len l all nd fun x hx => by
    obtain ⟨m, _, ⟨⟨r, p, _⟩, _⟩⟩ := q x hx
    exact ha x r p
  omega

/-! ### the law's own search -/
variable (nb)
structure Lay (s o : α) (n : Nat) (layer : List (List Int × α)) (seen : List α) : Prop where
  sn : ∀ t, t ∈ seen ↔ ∃ m, m < n ∧ Dst nb s t m
  nod : seen.Nodup
  pth : ∀ p, p ∈ layer → Path nb s p.1 p.2 ∧ p.1.length = n
  srt : layer.Pairwise fun p q => lexLt p.1 q.1
  mn : ∀ u r, r.length = n → IsMin nb s u r → (r, u) ∈ layer
  tgt : ∀ d, Dst nb s o d → n ≤ d
structure Lin (s o : α) (n : Nat) (pre : List (List Int × α)) (seen0 seen : List α) (later : List (List Int × α)) : Prop where
  sn : ∀ t, t ∈ seen ↔ t ∈ seen0 ∨ ∃ r, (r, t) ∈ pre
  nod : seen.Nodup
  lat : ∀ p, p ∈ later → ∃ r u k, (r, u) ∈ pre ∧ p.1 = r ++ [k] ∧ (k, p.2) ∈ nb u
  srt : later.Pairwise fun p q => lexLt p.1 q.1
  mn : ∀ u r, (r, u) ∈ pre → IsMin nb s u r → ∀ p, p ∈ nb u → (r ++ [p.1], p.2) ∈ later
  no : ∀ r, ¬ (r, o) ∈ pre
  len : ∀ c, (∀ u, (nb u).length ≤ c) → later.length ≤ c * seen.length
variable {nb}
variable {o : α} {layer pre post : List (List Int × α)} {seen seen0 : List α} {lat : List (List Int × α)}
theorem Lay.start (s o : α) : Lay nb s o 0 [([], s)] [] where
  sn := fun t => by simp
  nod := by simp
  pth := fun p hp => by
    have e : p = ([], s) := by simpa using hp
    subst e
    exact ⟨.nil s, rfl⟩
  srt := by simp
  mn := fun u r e h => by
    have e2 : r = [] := List.eq_nil_of_length_eq_zero e
    subst e2
    have := h.1.zero rfl
    subst this
    simp
  tgt := fun d _ => Nat.zero_le d
theorem Lay.lin (h : Lay nb s o n layer seen) : Lin nb s o n [] seen seen [] where
  sn := fun t => by simp
  nod := h.nod
  lat := fun p hp => by cases hp
  srt := List.Pairwise.nil
  mn := fun u r h => by cases h
  no := fun r h => by cases h
  len := fun c _ => Nat.zero_le _
/-- it is found -/
theorem Lin.hit (asc : Asc nb) (L : Lay nb s o n (pre ++ (r, o) :: post) seen0) (h : Lin nb s o n pre seen0 seen lat) : IsMin nb s o r := by
  obtain ⟨p, er⟩ := L.pth (r, o) (by simp)
  have hd : Dst nb s o n := ⟨⟨r, p, er⟩, fun q pq => by
    obtain ⟨m, hm, d⟩ := pq.dst
    have := L.tgt m d
    omega⟩
  obtain ⟨q, hq, eq⟩ := IsMin.ex asc hd
  have e : q = r := by
    have m := L.mn o q eq hq
    rcases List.mem_append.mp m with m | m
    · exact absurd m (h.no q)
    · rcases List.mem_cons.mp m with m | m
      · exact congrArg Prod.fst m
      · have z : lexLt r q := (List.pairwise_cons.mp (List.pairwise_append.mp L.srt).2.1).1 _ m
        exact absurd z ((hq.2 r p).2 (er.trans eq.symm))
  rw [← e]; exact hq
/-- a shape that was seen -/
theorem Lin.skip {r : List Int} {u : α} (L : Lay nb s o n (pre ++ (r, u) :: post) seen0) (h : Lin nb s o n pre seen0 seen lat) (ho : u ≠ o) (hu : u ∈ seen) : Lin nb s o n (pre ++ [(r, u)]) seen0 seen lat where
  sn := fun t => by
    rw [h.sn t]
    constructor
    · rintro (q | ⟨r', q⟩)
      · exact Or.inl q
      · exact Or.inr ⟨r', List.mem_append_left _ q⟩
    · rintro (q | ⟨r', q⟩)
      · exact Or.inl q
      · rcases List.mem_append.mp q with q | q
        · exact Or.inr ⟨r', q⟩
        · have e : (r', t) = (r, u) := by simpa using q
          cases e
          exact (h.sn _).mp hu
  nod := h.nod
  lat := fun p hp => by
    obtain ⟨r', u', k, a, b, c⟩ := h.lat p hp
    exact ⟨r', u', k, List.mem_append_left _ a, b, c⟩
  srt := h.srt
  mn := fun u' r' m hm p hp => by
    rcases List.mem_append.mp m with m | m
    · exact h.mn u' r' m hm p hp
    · have e : (r', u') = (r, u) := by simpa using m
      cases e
      exfalso
      obtain ⟨pr, er⟩ := L.pth (r, u) (by simp)
      rcases (h.sn u).mp hu with q | ⟨r0, q⟩
      · obtain ⟨m, hm', d⟩ := (L.sn u).mp q
        have := hm.dst.uniq d
        have er : r.length = n := er
        omega
      · obtain ⟨p0, e0⟩ := L.pth (r0, u) (List.mem_append_left _ q)
        have z : lexLt r0 r := (List.pairwise_append.mp L.srt).2.2 _ q (r, u) (by simp)
        exact (hm.2 r0 p0).2 (e0.trans er.symm) z
  no := fun r' m => by
    rcases List.mem_append.mp m with m | m
    · exact h.no r' m
    · have e : (r', o) = (r, u) := by simpa using m
      cases e
      exact ho rfl
  len := h.len
/-- a new shape -/
theorem Lin.push (asc : Asc nb) {r : List Int} {u : α} (L : Lay nb s o n (pre ++ (r, u) :: post) seen0) (h : Lin nb s o n pre seen0 seen lat) (ho : u ≠ o) (hu : ¬ u ∈ seen) :
    Lin nb s o n (pre ++ [(r, u)]) seen0 (seen ++ [u]) (lat ++ (nb u).map fun p => (r ++ [p.1], p.2)) where
  sn := fun t => by
    rw [List.mem_append, h.sn t]
    constructor
    · rintro ((q | ⟨r', q⟩) | q)
      · exact Or.inl q
      · exact Or.inr ⟨r', List.mem_append_left _ q⟩
      · have e : t = u := by simpa using q
        subst e
        exact Or.inr ⟨r, by simp⟩
    · rintro (q | ⟨r', q⟩)
      · exact Or.inl (Or.inl q)
      · rcases List.mem_append.mp q with q | q
        · exact Or.inl (Or.inr ⟨r', q⟩)
        · have e : (r', t) = (r, u) := by simpa using q
          cases e
          exact Or.inr (by simp)
  nod := List.nodup_append.mpr ⟨h.nod, by simp, fun a ha b hb e => by
    have e2 : b = u := by simpa using hb
    subst e e2
    exact hu ha⟩
  lat := fun p hp => by
    rcases List.mem_append.mp hp with q | q
    · obtain ⟨r', u', k, a, b, c⟩ := h.lat p q
      exact ⟨r', u', k, List.mem_append_left _ a, b, c⟩
    · obtain ⟨x, hx, e⟩ := List.mem_map.mp q
      subst e
      exact ⟨r, u, x.1, by simp, rfl, hx⟩
  srt := by
    refine List.pairwise_append.mpr ⟨h.srt, ?_, fun a ha b hb => ?_⟩
    · refine List.pairwise_map.mpr ((asc u).imp fun {p q} hpq => ?_)
      exact lexLt_pre r _ _ (Or.inl hpq)
    · obtain ⟨r', u', k, m, e, _⟩ := h.lat a ha
      obtain ⟨x, hx, e2⟩ := List.mem_map.mp hb
      subst e2
      rw [e]
      have z : lexLt r' r := (List.pairwise_append.mp L.srt).2.2 _ m (r, u) (by simp)
      exact lexLt_app _ _ _ _ z
  mn := fun u' r' m hm p hp => by
    rcases List.mem_append.mp m with m | m
    · exact List.mem_append_left _ (h.mn u' r' m hm p hp)
    · have e : (r', u') = (r, u) := by simpa using m
      cases e
      exact List.mem_append_right _ (List.mem_map.mpr ⟨p, hp, rfl⟩)
  no := fun r' m => by
    rcases List.mem_append.mp m with m | m
    · exact h.no r' m
    · have e : (r', o) = (r, u) := by simpa using m
      cases e
      exact ho rfl
  len := fun c hc => by
    have := h.len c hc
    have := hc u
    rw [List.length_append, List.length_append, List.length_map, List.length_singleton, Nat.mul_add]
    omega
/-- behind the layer -/
theorem Lin.done (asc : Asc nb) (L : Lay nb s o n layer seen0) (h : Lin nb s o n layer seen0 seen lat) : Lay nb s o (n + 1) lat seen where
  sn := fun t => by
    rw [h.sn t, L.sn t]
    constructor
    · rintro (⟨m, hm, d⟩ | ⟨r, hr⟩)
      · exact ⟨m, by omega, d⟩
      · obtain ⟨p, e⟩ := L.pth _ hr
        obtain ⟨m, hm, d⟩ := p.dst
        have e : r.length = n := e
        have hm : m ≤ r.length := hm
        exact ⟨m, by omega, d⟩
    · rintro ⟨m, hm, d⟩
      by_cases e : m = n
      · subst e
        obtain ⟨r, hr, er⟩ := IsMin.ex asc d
        exact Or.inr ⟨r, L.mn t r er hr⟩
      · exact Or.inl ⟨m, by omega, d⟩
  nod := h.nod
  pth := fun p hp => by
    obtain ⟨r, u, k, m, e, hk⟩ := h.lat p hp
    obtain ⟨q, er⟩ := L.pth _ m
    rw [e]
    have er : r.length = n := er
    exact ⟨q.snoc hk, by simp [er]⟩
  srt := h.srt
  mn := fun v r' e hm => by
    obtain ⟨r, k, rfl, er⟩ := snoc_of e
    obtain ⟨u, hu, hk⟩ := hm.init
    exact h.mn u r (L.mn u r er hu) hu (k, v) hk
  tgt := fun d hd => by
    have := L.tgt d hd
    by_cases e : d = n
    · subst e
      obtain ⟨r, hr, er⟩ := IsMin.ex asc hd
      exact absurd (L.mn o r er hr) (h.no r)
    · omega
theorem Lin.seen_small (L : Lay nb s o n (pre ++ post) seen0) (h : Lin nb s o n pre seen0 seen lat) {all : List α} (ha : ∀ t r, Path nb s r t → t ∈ all) : seen.length ≤ all.length :=
  nodup_len _ _ h.nod fun t ht => by
    rcases (h.sn t).mp ht with q | ⟨r, q⟩
    · obtain ⟨m, _, ⟨⟨r, p, _⟩, _⟩⟩ := (L.sn t).mp q
      exact ha t r p
    · exact ha t r (L.pth (r, t) (List.mem_append_left _ q)).1
end
end TT


/-! KM3 -/
namespace TT
inductive T where
  | nil
  | node (l : T) (k : Int) (r : T)
  deriving DecidableEq

namespace T
def keys : T → List Int
  | nil => []
  | node l k r => l.keys ++ [k] ++ r.keys
def top : T → Int
  | nil => 0
  | node _ k _ => k
def ht : T → Nat
  | nil => 0
  | node l _ r => max l.ht r.ht + 1
def turn : T → Int → T
  | nil, _ => nil
  | node nil t nil, _ => node nil t nil
  | node nil t (node a j b), k => if k < t then node nil t (node a j b) else if j = k then node (node nil t a) j b else node nil t (turn (node a j b) k)
  | node (node a j b) t nil, k => if k < t then (if j = k then node a j (node b t nil) else node (turn (node a j b) k) t nil) else node (node a j b) t nil
  | node (node a j b) t (node c i d), k =>
    if k < t then (if j = k then node a j (node b t (node c i d)) else node (turn (node a j b) k) t (node c i d))
    else if i = k then node (node (node a j b) t c) i d else node (node a j b) t (turn (node c i d) k)
theorem turn_l {a b r : T} {j t k : Int} (h : k < t) : turn (node (node a j b) t r) k = if j = k then node a j (node b t r) else node (turn (node a j b) k) t r := by
  cases r <;> simp [turn, h]
theorem turn_r {l c d : T} {i t k : Int} (h : ¬ k < t) : turn (node l t (node c i d)) k = if i = k then node (node l t c) i d else node l t (turn (node c i d) k) := by
  cases l <;> simp [turn, h]
def Srt (t : T) : Prop := t.keys.Pairwise (· < ·)
theorem srt_node {l r : T} {k : Int} : Srt (node l k r) ↔ Srt l ∧ Srt r ∧ (∀ x ∈ l.keys, x < k) ∧ (∀ x ∈ r.keys, k < x) := by
  unfold Srt
  rw [keys, List.append_assoc, List.pairwise_append]
  simp only [List.singleton_append, List.pairwise_cons, List.mem_cons]
  constructor
  · rintro ⟨h1, ⟨h2, h3⟩, h4⟩
    exact ⟨h1, h3, fun x hx => h4 x hx k (Or.inl rfl), h2⟩
  · rintro ⟨h1, h2, h3, h4⟩
    refine ⟨h1, ⟨h4, h2⟩, fun a ha b hb => ?_⟩
    rcases hb with e | hb
    · subst e; exact h3 a ha
    · have := h3 a ha
      have := h4 b hb
      omega
theorem mem_node {l r : T} {k x : Int} : x ∈ (node l k r).keys ↔ x ∈ l.keys ∨ x = k ∨ x ∈ r.keys := by
  rw [keys]; simp [or_assoc]
theorem ht_le : ∀ t : T, t.ht ≤ t.keys.length
  | nil => Nat.le_refl _
  | node l k r => by
    have := ht_le l
    have := ht_le r
    simp [ht, keys]; omega
theorem turn_keys : ∀ (s : T) (k : Int), Srt s → k ∈ s.keys → k ≠ s.top → (s.turn k).keys = s.keys
  | nil, k, _, h, _ => by cases h
  | node l t r, k, hs, hm, hn => by
    obtain ⟨s1, s2, h1, h2⟩ := srt_node.mp hs
    have hn : k ≠ t := hn
    rcases mem_node.mp hm with m | m | m
    · have hk := h1 k m
      cases l with
      | nil => cases m
      | node a j b =>
        rw [turn_l hk]
        by_cases e : j = k
        · rw [if_pos e]; simp [keys]
        · rw [if_neg e]
          have := turn_keys (node a j b) k s1 m (fun z => e z.symm)
          rw [keys, this]; rfl
    · exact absurd m hn
    · have hk := h2 k m
      cases r with
      | nil => cases m
      | node c i d =>
        rw [turn_r (by omega)]
        by_cases e : i = k
        · rw [if_pos e]; simp [keys]
        · rw [if_neg e]
          have := turn_keys (node c i d) k s2 m (fun z => e z.symm)
          rw [keys, this]; rfl
theorem turn_back : ∀ (s : T) (k : Int), Srt s → k ∈ s.keys → k ≠ s.top → ∃ k', k' ∈ s.keys ∧ k' ≠ (s.turn k).top ∧ (s.turn k).turn k' = s
  | nil, k, _, h, _ => by cases h
  | node l t r, k, hs, hm, hn => by
    obtain ⟨s1, s2, h1, h2⟩ := srt_node.mp hs
    have hn : k ≠ t := hn
    rcases mem_node.mp hm with m | m | m
    · have hk := h1 k m
      cases l with
      | nil => cases m
      | node a j b =>
        rw [turn_l hk]
        by_cases e : j = k
        · rw [if_pos e]
          refine ⟨t, mem_node.mpr (Or.inr (Or.inl rfl)), ?_, ?_⟩
          · show t ≠ j; omega
          · rw [turn_r (by omega), if_pos rfl]
        · rw [if_neg e]
          have hne : k ≠ (node a j b).top := fun z => e z.symm
          obtain ⟨k', m', n', e'⟩ := turn_back (node a j b) k s1 m hne
          have hk' := h1 k' m'
          refine ⟨k', mem_node.mpr (Or.inl m'), ?_, ?_⟩
          · show k' ≠ t; omega
          · cases hl : turn (node a j b) k with
            | nil => rw [hl] at e'; simp [turn] at e'
            | node a' j' b' =>
              rw [hl] at e' n'
              rw [turn_l hk', if_neg (fun z => n' z.symm), e']
    · exact absurd m hn
    · have hk := h2 k m
      cases r with
      | nil => cases m
      | node c i d =>
        rw [turn_r (by omega)]
        by_cases e : i = k
        · rw [if_pos e]
          refine ⟨t, mem_node.mpr (Or.inr (Or.inl rfl)), ?_, ?_⟩
          · show t ≠ i; omega
          · rw [turn_l (by omega), if_pos rfl]
        · rw [if_neg e]
          have hne : k ≠ (node c i d).top := fun z => e z.symm
          obtain ⟨k', m', n', e'⟩ := turn_back (node c i d) k s2 m hne
          have hk' := h2 k' m'
          refine ⟨k', mem_node.mpr (Or.inr (Or.inr m')), ?_, ?_⟩
          · show k' ≠ t; omega
          · cases hl : turn (node c i d) k with
            | nil => rw [hl] at e'; simp [turn] at e'
            | node a' j' b' =>
              rw [hl] at e' n'
              rw [turn_r (by omega), if_neg (fun z => n' z.symm), e']
end T
open T

def near (s : T) : List (Int × T) := (s.keys.filter fun k => !decide (k = s.top)).map fun k => (k, s.turn k)
theorem mem_near {s u : T} {k : Int} : (k, u) ∈ near s ↔ k ∈ s.keys ∧ k ≠ s.top ∧ u = s.turn k := by
  unfold near
  rw [List.mem_map]
  constructor
  · rintro ⟨x, hx, e⟩
    obtain ⟨h1, h2⟩ := List.mem_filter.mp hx
    cases e
    exact ⟨h1, by simpa using h2, rfl⟩
  · rintro ⟨h1, h2, rfl⟩
    exact ⟨k, List.mem_filter.mpr ⟨h1, by simpa using h2⟩, rfl⟩
/-- the graph of the shapes with the keys ks -/
def nb (ks : List Int) (s : T) : List (Int × T) := if s.keys = ks then near s else []
theorem nb_eq {s : T} {ks : List Int} (h : s.keys = ks) : nb ks s = near s := if_pos h
theorem mem_nb {ks : List Int} {s u : T} {k : Int} (h : (k, u) ∈ nb ks s) : s.keys = ks ∧ (k, u) ∈ near s := by
  unfold nb at h
  split at h
  · exact ⟨by assumption, h⟩
  · cases h
section
variable {ks : List Int} (hs : ks.Pairwise (· < ·))
include hs
theorem nb_asc : Asc (nb ks) := fun s => by
  unfold nb
  split
  · rename_i e
    unfold near
    rw [List.pairwise_map, e]
    exact (hs.filter _).imp fun h => h
  · exact List.Pairwise.nil
theorem nb_keys {s u : T} {k : Int} (h : (k, u) ∈ nb ks s) : u.keys = ks := by
  obtain ⟨e, h⟩ := mem_nb h
  obtain ⟨h1, h2, rfl⟩ := mem_near.mp h
  rw [turn_keys s k (by unfold Srt; rw [e]; exact hs) h1 h2, e]
theorem path_keys {s t : T} {r : List Int} (p : Path (nb ks) s r t) : s.keys = ks → t.keys = ks := by
  induction p with
  | nil => exact id
  | cons m _ ih => exact fun _ => ih (nb_keys hs m)
theorem nb_back {s u : T} {k : Int} (h : (k, u) ∈ nb ks s) : ∃ k', (k', s) ∈ nb ks u := by
  have hu := nb_keys hs h
  obtain ⟨e, h⟩ := mem_nb h
  obtain ⟨h1, h2, rfl⟩ := mem_near.mp h
  obtain ⟨k', m, n, e'⟩ := turn_back s k (by unfold Srt; rw [e]; exact hs) h1 h2
  exact ⟨k', by rw [nb_eq hu]; exact mem_near.mpr ⟨by rw [hu, ← e]; exact m, n, e'.symm⟩⟩
theorem path_back {s t : T} {r : List Int} (p : Path (nb ks) s r t) : ∃ q, Path (nb ks) t q s ∧ q.length = r.length := by
  induction p with
  | nil s => exact ⟨[], .nil s, rfl⟩
  | cons m _ ih =>
    obtain ⟨q, p, e⟩ := ih
    obtain ⟨k', m'⟩ := nb_back hs m
    exact ⟨_, p.snoc m', by simp [e]⟩
theorem dst_back {s t : T} {n : Nat} (h : Dst (nb ks) s t n) : Dst (nb ks) t s n := by
  obtain ⟨⟨r, p, e⟩, l⟩ := h
  obtain ⟨q, pq, eq⟩ := path_back hs p
  refine ⟨⟨q, pq, by omega⟩, fun r' p' => ?_⟩
  obtain ⟨q', pq', eq'⟩ := path_back hs p'
  have := l q' pq'
  omega
end

/-! ### every shape is reached -/
theorem lift_l {l u x : T} {k j : Int} (h : Srt (node l k x)) (m : (j, u) ∈ near l) : (j, node u k x) ∈ near (node l k x) := by
  obtain ⟨s1, s2, h1, h2⟩ := srt_node.mp h
  obtain ⟨m1, m2, rfl⟩ := mem_near.mp m
  have := h1 j m1
  refine mem_near.mpr ⟨mem_node.mpr (Or.inl m1), by show j ≠ k; omega, ?_⟩
  cases l with
  | nil => cases m1
  | node a i b => rw [turn_l this, if_neg (fun z => m2 z.symm)]
theorem lift_r {r u x : T} {k j : Int} (h : Srt (node x k r)) (m : (j, u) ∈ near r) : (j, node x k u) ∈ near (node x k r) := by
  obtain ⟨s1, s2, h1, h2⟩ := srt_node.mp h
  obtain ⟨m1, m2, rfl⟩ := mem_near.mp m
  have := h2 j m1
  refine mem_near.mpr ⟨mem_node.mpr (Or.inr (Or.inr m1)), by show j ≠ k; omega, ?_⟩
  cases r with
  | nil => cases m1
  | node a i b => rw [turn_r (by omega), if_neg (fun z => m2 z.symm)]
theorem near_keys {s u : T} {k : Int} (h : Srt s) (m : (k, u) ∈ near s) : u.keys = s.keys := by
  obtain ⟨m1, m2, rfl⟩ := mem_near.mp m
  exact turn_keys s k h m1 m2
theorem srt_of {s u : T} (e : u.keys = s.keys) (h : Srt s) : Srt u := by unfold Srt; rw [e]; exact h
theorem pn_keys {s t : T} {r : List Int} (p : Path near s r t) : Srt s → t.keys = s.keys := by
  induction p with
  | nil => exact fun _ => rfl
  | cons m _ ih =>
    intro h
    have e := near_keys h m
    exact (ih (srt_of e h)).trans e
theorem srt_l {l u x : T} {k : Int} (h : Srt (node l k x)) (e : u.keys = l.keys) : Srt (node u k x) := by
  unfold Srt at h ⊢
  rw [keys, e]
  exact h
theorem srt_r {l u x : T} {k : Int} (h : Srt (node x k l)) (e : u.keys = l.keys) : Srt (node x k u) := by
  unfold Srt at h ⊢
  rw [keys, e]
  exact h
theorem pn_l {l t x : T} {k : Int} {r : List Int} (p : Path near l r t) : Srt (node l k x) → Path near (node l k x) r (node t k x) := by
  induction p with
  | nil => exact fun _ => .nil _
  | cons m _ ih =>
    intro h
    exact .cons (lift_l h m) (ih (srt_l h (near_keys (srt_node.mp h).1 m)))
theorem pn_r {l t x : T} {k : Int} {r : List Int} (p : Path near l r t) : Srt (node x k l) → Path near (node x k l) r (node x k t) := by
  induction p with
  | nil => exact fun _ => .nil _
  | cons m _ ih =>
    intro h
    exact .cons (lift_r h m) (ih (srt_r h (near_keys (srt_node.mp h).2.1 m)))
theorem to_top : ∀ (s : T) (k : Int), Srt s → k ∈ s.keys → ∃ r a b, Path near s r (node a k b)
  | nil, k, _, h => by cases h
  | node l t x, k, hs, hm => by
    obtain ⟨s1, s2, h1, h2⟩ := srt_node.mp hs
    rcases mem_node.mp hm with m | m | m
    · obtain ⟨r, a, b, p⟩ := to_top l k s1 m
      have ek := pn_keys p s1
      have p2 := pn_l p hs
      have hk := h1 k m
      have st : (k, node a k (node b t x)) ∈ near (node (node a k b) t x) := by
        refine mem_near.mpr ⟨mem_node.mpr (Or.inl (mem_node.mpr (Or.inr (Or.inl rfl)))), by show k ≠ t; omega, ?_⟩
        rw [turn_l hk, if_pos rfl]
      exact ⟨_, _, _, p2.snoc st⟩
    · subst m
      exact ⟨[], l, x, .nil _⟩
    · obtain ⟨r, a, b, p⟩ := to_top x k s2 m
      have p2 := pn_r p hs
      have hk := h2 k m
      have st : (k, node (node l t a) k b) ∈ near (node l t (node a k b)) := by
        refine mem_near.mpr ⟨mem_node.mpr (Or.inr (Or.inr (mem_node.mpr (Or.inr (Or.inl rfl))))), by show k ≠ t; omega, ?_⟩
        rw [turn_r (by omega), if_pos rfl]
      exact ⟨_, _, _, p2.snoc st⟩
theorem split_at {k : Int} : ∀ {a b c d : List Int}, k ∉ a → k ∉ c → a ++ k :: b = c ++ k :: d → a = c ∧ b = d
  | [], b, [], d, _, _, h => by simpa using h
  | [], b, y :: c, d, _, h2, h => by
    simp at h
    exact absurd (by rw [h.1]; simp) h2
  | x :: a, b, [], d, h1, _, h => by
    simp at h
    exact absurd (by rw [h.1]; simp) h1
  | x :: a, b, y :: c, d, h1, h2, h => by
    simp at h
    obtain ⟨e1, e2⟩ := split_at (a := a) (c := c) (fun z => h1 (List.mem_cons_of_mem _ z)) (fun z => h2 (List.mem_cons_of_mem _ z)) h.2
    exact ⟨by rw [h.1, e1], e2⟩
theorem pn_all : ∀ (t s : T), Srt s → s.keys = t.keys → ∃ r, Path near s r t
  | nil, s, hs, e => by
    cases s with
    | nil => exact ⟨[], .nil _⟩
    | node l k x => simp [keys] at e
  | node tl k tr, s, hs, e => by
    have hk : k ∈ s.keys := by rw [e]; exact mem_node.mpr (Or.inr (Or.inl rfl))
    obtain ⟨r, a, b, p⟩ := to_top s k hs hk
    have e2 := pn_keys p hs
    have ht : Srt (node tl k tr) := srt_of e.symm hs
    have ha : Srt (node a k b) := srt_of e2 hs
    obtain ⟨t1, t2, t3, t4⟩ := srt_node.mp ht
    obtain ⟨a1, a2, a3, a4⟩ := srt_node.mp ha
    have e3 : a.keys ++ k :: b.keys = tl.keys ++ k :: tr.keys := by
      have q := e2.trans e
      simpa [keys] using q
    obtain ⟨ea, eb⟩ := split_at (fun z => by have := a3 k z; omega) (fun z => by have := t3 k z; omega) e3
    obtain ⟨r1, p1⟩ := pn_all tl a a1 ea
    obtain ⟨r2, p2⟩ := pn_all tr b a2 eb
    exact ⟨_, (p.app (pn_l p1 ha)).app (pn_r p2 (srt_l ha ea.symm))⟩
theorem pn_nb {ks : List Int} (hs : ks.Pairwise (· < ·)) {s t : T} {r : List Int} (p : Path near s r t) : s.keys = ks → Path (nb ks) s r t := by
  induction p with
  | nil => exact fun _ => .nil _
  | cons m _ ih =>
    intro e
    have m2 := m
    rw [← nb_eq e] at m2
    exact .cons m2 (ih (nb_keys hs m2))
theorem dst_ex {ks : List Int} (hs : ks.Pairwise (· < ·)) {s t : T} (e1 : s.keys = ks) (e2 : t.keys = ks) : ∃ n, Dst (nb ks) s t n := by
  obtain ⟨r, p⟩ := pn_all t s (by unfold Srt; rw [e1]; exact hs) (e1.trans e2.symm)
  obtain ⟨m, _, d⟩ := (pn_nb hs p e1).dst
  exact ⟨m, d⟩

/-! ### how many there are -/
def cat : Nat → Nat → Nat
  | 0, _ => 1
  | n + 1, m => if m = 0 then 1 else ((List.range m).map fun i => cat n i * cat n (m - 1 - i)).sum
def allF : Nat → List Int → List T
  | 0, _ => [nil]
  | n + 1, ks => if ks.length = 0 then [nil] else (List.range ks.length).flatMap fun i => (allF n (ks.take i)).flatMap fun l => (allF n (ks.drop (i + 1))).map fun r => node l (ks.getD i 0) r
theorem allF_len : ∀ (n : Nat) (ks : List Int), (allF n ks).length = cat n ks.length
  | 0, _ => rfl
  | n + 1, ks => by
    unfold allF cat
    split
    · rfl
    · rw [List.length_flatMap]
      refine congrArg List.sum (List.map_congr_left fun i hi => ?_)
      have hi := List.mem_range.mp hi
      rw [List.length_flatMap]
      have e : ∀ (L : List T) (c : Nat), (List.map (fun a => (List.map (fun r => node a (ks.getD i 0) r) (allF n (List.drop (i + 1) ks))).length) L).sum = L.length * (allF n (ks.drop (i + 1))).length := by
        intro L c
        induction L with
        | nil => simp
        | cons a L ih => rw [List.map_cons, List.sum_cons, ih, List.length_map, List.length_cons, Nat.add_mul]; omega
      rw [e _ 0, allF_len n, allF_len n, List.length_take, List.length_drop]
      have e1 : min i ks.length = i := by omega
      have e2 : ks.length - (i + 1) = ks.length - 1 - i := by omega
      rw [e1, e2]
theorem mem_allF : ∀ (t : T) (n : Nat), t.ht ≤ n → t ∈ allF n t.keys
  | nil, 0, _ => by simp [allF]
  | nil, n + 1, _ => by simp [allF, keys]
  | node l k r, 0, h => by simp [ht] at h
  | node l k r, n + 1, h => by
    have h1 : l.ht ≤ n := by simp [ht] at h; omega
    have h2 : r.ht ≤ n := by simp [ht] at h; omega
    have m1 := mem_allF l n h1
    have m2 := mem_allF r n h2
    unfold allF
    have hk : (node l k r).keys = l.keys ++ k :: r.keys := by simp [keys]
    rw [if_neg (by rw [hk]; simp)]
    refine List.mem_flatMap.mpr ⟨l.keys.length, List.mem_range.mpr (by rw [hk]; simp), ?_⟩
    have e1 : (node l k r).keys.take l.keys.length = l.keys := by rw [hk]; simp
    have e2 : (node l k r).keys.drop (l.keys.length + 1) = r.keys := by
      rw [hk, List.drop_append]; simp
    have e3 : (node l k r).keys.getD l.keys.length 0 = k := by rw [hk]; simp [List.getD]
    rw [e1, e2, e3]
    exact List.mem_flatMap.mpr ⟨l, m1, List.mem_map.mpr ⟨r, m2, rfl⟩⟩
def allT (ks : List Int) : List T := allF 5 ks
theorem allT_len {ks : List Int} (h : ks.length ≤ 5) : (allT ks).length ≤ 42 := by
  unfold allT
  rw [allF_len]
  have : ∀ m, m < 6 → cat 5 m ≤ 42 := by decide
  exact this _ (by omega)
theorem mem_allT {ks : List Int} (h : ks.length ≤ 5) {t : T} (e : t.keys = ks) : t ∈ allT ks := by
  have := mem_allF t 5 (by have := ht_le t; rw [e] at this; omega)
  rw [e] at this
  exact this
theorem reach_all {ks : List Int} (hs : ks.Pairwise (· < ·)) (h : ks.length ≤ 5) {s : T} (e : s.keys = ks) : ∀ t r, Path (nb ks) s r t → t ∈ allT ks := fun t r p => mem_allT h (path_keys hs p e)
theorem nb_len {ks : List Int} (h : ks.length ≤ 5) (u : T) : (nb ks u).length ≤ 5 := by
  unfold nb
  split
  · rename_i e
    unfold near
    rw [List.length_map]
    have := List.length_filter_le (fun k => !decide (k = u.top)) u.keys
    rw [e] at this
    rw [e]
    omega
  · simp

/-! ### between -/
def Bet : Int → Int → T → Prop
  | _, _, nil => True
  | lo, hi, node l k r => (lo ≤ k ∧ k ≤ hi) ∧ Bet lo (k - 1) l ∧ Bet (k + 1) hi r
theorem bet_of : ∀ (t : T) (lo hi : Int), Srt t → (∀ k ∈ t.keys, lo ≤ k ∧ k ≤ hi) → Bet lo hi t
  | nil, _, _, _, _ => True.intro
  | node l k r, lo, hi, hs, h => by
    obtain ⟨s1, s2, h1, h2⟩ := srt_node.mp hs
    refine ⟨h k (mem_node.mpr (Or.inr (Or.inl rfl))), bet_of l _ _ s1 fun x hx => ?_, bet_of r _ _ s2 fun x hx => ?_⟩
    · have := h x (mem_node.mpr (Or.inl hx))
      have := h1 x hx
      omega
    · have := h x (mem_node.mpr (Or.inr (Or.inr hx)))
      have := h2 x hx
      omega

/-! ### the turns that lead on -/
def dv (far : List (T × Nat)) (t : T) : Nat := ((far.find? fun p => decide (p.1 = t)).map (·.2)).getD 0
theorem dv_of : ∀ {far : List (T × Nat)} {t : T} {m : Nat}, (far.map (·.1)).Nodup → (t, m) ∈ far → dv far t = m
  | [], _, _, _, h => by cases h
  | (u, j) :: r, t, m, hn, h => by
    have hn : (u :: r.map (·.1)).Nodup := hn
    obtain ⟨n1, n2⟩ := List.nodup_cons.mp hn
    by_cases e : u = t
    · subst e
      rcases List.mem_cons.mp h with q | q
      · have q : m = j := congrArg Prod.snd q
        subst q
        simp [dv]
      · exact absurd (List.mem_map.mpr ⟨(u, m), q, rfl⟩) n1
    · have q : (t, m) ∈ r := by
        rcases List.mem_cons.mp h with q | q
        · exact absurd (congrArg Prod.fst q).symm e
        · exact q
      have ih := dv_of n2 q
      unfold dv at ih ⊢
      rw [List.find?_cons_of_neg (by simpa using e)]
      exact ih
section
variable {ks : List Int} {far : List (T × Nat)} {one other : T}
theorem far_in {t : T} (et : t.keys = ks) (hs : ks.Pairwise (· < ·)) (e2 : other.keys = ks) (W : Ways (nb ks) other far) : (t, dv far t) ∈ far ∧ Dst (nb ks) t other (dv far t) := by
  obtain ⟨n, d⟩ := dst_ex hs e2 et
  have m := (W.1 t n).mpr d
  have e := dv_of W.2 m
  rw [e]
  exact ⟨m, dst_back hs d⟩
theorem good_first (hne : one ≠ other) (hs : ks.Pairwise (· < ·)) (e1 : one.keys = ks) (e2 : other.keys = ks) (W : Ways (nb ks) other far) : ∃ k u rest, ((near one).filter fun p => decide (dv far p.2 < dv far one)) = (k, u) :: rest ∧ u.keys = ks ∧ dv far u < dv far one ∧
    ∀ r, Greedy (nb ks) u other r → Greedy (nb ks) one other (k :: r) := by
  obtain ⟨m1, d1⟩ := far_in (t := one) e1 hs e2 W
  have hpos : dv far one ≠ 0 := fun z => by
    rw [z] at d1
    exact hne d1.zero
  obtain ⟨n, hn⟩ : ∃ n, dv far one = n + 1 := ⟨dv far one - 1, by omega⟩
  rw [hn] at d1
  obtain ⟨k0, u0, hm0, hd0⟩ := d1.fwd
  obtain ⟨pre, p, post, e, hp, hno⟩ := first_split (fun p : Int × T => dv far p.2 < dv far one) (near one) ⟨(k0, u0), (mem_nb hm0).2, by
    have ku := nb_keys hs hm0
    have q := (far_in ku hs e2 W).2
    have := q.uniq hd0
    show dv far u0 < dv far one
    omega⟩
  obtain ⟨k, u⟩ := p
  have hp : dv far u < dv far one := hp
  have hmem : (k, u) ∈ nb ks one := by rw [nb_eq e1, e]; simp
  have ku := nb_keys hs hmem
  have du := (far_in ku hs e2 W).2
  have hle := d1.step hmem du
  have eu : dv far u = n := by omega
  refine ⟨k, u, post.filter fun p => decide (dv far p.2 < dv far one), ?_, ku, hp, fun r g => ?_⟩
  · rw [e, List.filter_append, List.filter_cons, if_pos (by simpa using hp), List.filter_eq_nil_iff.mpr fun q hq => by simpa using hno q hq]
    rfl
  · refine .cons (pre := pre) (post := post) (by rw [nb_eq e1, e]) d1 (by rw [← eu]; exact du) (fun q hq z => ?_) g
    have hq2 : (q.1, q.2) ∈ nb ks one := by rw [nb_eq e1, e]; exact List.mem_append_left _ hq
    have kq := nb_keys hs hq2
    have dq := (far_in kq hs e2 W).2
    have := dq.uniq z
    have := hno q hq
    omega
end
/-- the turns, one after the other -/
theorem path_turns {ks : List Int} {s t : T} {k : Int} {r : List Int} (p : Path (nb ks) s (k :: r) t) : k ∈ s.keys ∧ k ≠ s.top ∧ Path (nb ks) (s.turn k) r t := by
  cases p with
  | cons m p =>
    obtain ⟨h1, h2, rfl⟩ := mem_near.mp (mem_nb m).2
    exact ⟨h1, h2, p⟩
end TT


/-! KR -/
namespace TT
open PySem PySem.Spec PyProof.Rows L2

/-! ### shapes in the heap -/
inductive Sh (H : Hp) : V → T → Prop
  | nil {a : Addr} : H a = some (.tup []) → Sh H (.ref a) .nil
  | node {a : Addr} {x y : V} {k : Int} {l r : T} : H a = some (.tup [x, .int k, y]) → Sh H x l → Sh H y r → Sh H (.ref a) (.node l k r)
/-- the tuples stay -/
def Tps (H H' : Hp) : Prop := ∀ b xs, H b = some (.tup xs) → H' b = some (.tup xs)
theorem Tps.refl (H : Hp) : Tps H H := fun _ _ h => h
theorem Tps.trans {H H1 H2 : Hp} (a : Tps H H1) (b : Tps H1 H2) : Tps H H2 := fun c xs h => b c xs (a c xs h)
theorem tps_same {H H' : Hp} (e : Same H H') : Tps H H' := fun b xs h => e b _ h
theorem tps_upd {H : Hp} {a : Addr} {o : HO} (h : ∀ xs, H a ≠ some (.tup xs)) : Tps H (upd H a o) := fun b xs e => by
  have : b ≠ a := fun z => by subst z; exact h xs e
  rw [upd_ne this]; exact e
theorem same_new {H : Hp} {p : Addr} (h : H p = none) (o : HO) : Same H (upd H p o) := fun b u q => by rw [upd_ne (ne_of_none q h)]; exact q
theorem Sh.mono {H H' : Hp} (e : Tps H H') {v : V} {t : T} (h : Sh H v t) : Sh H' v t := by
  induction h with
  | nil h => exact .nil (e _ _ h)
  | node h _ _ i1 i2 => exact .node (e _ _ h) i1 i2
theorem Sh.ref {H : Hp} {v : V} {t : T} (h : Sh H v t) : ∃ a, v = .ref a := by
  cases h with
  | nil _ => exact ⟨_, rfl⟩
  | node _ _ _ => exact ⟨_, rfl⟩

/-! ### a shape as data -/
def T.dat : T → PyData
  | .nil => .tuple []
  | .node l k r => .tuple [l.dat, .int k, r.dat]
theorem Sh.dp {K : PySem.W.Frag} {H : Hp} {v : V} {t : T} (h : Sh H v t) : Dp K H v t.dat := by
  induction h with
  | nil h => exact .tup (SqT.of h) .nil
  | node h _ _ i1 i2 => exact .tup (SqT.of h) (.cons i1 (.cons (.int _) (.cons i2 .nil)))
theorem dat_lay : ∀ t : T, t.dat.canLay0 = true
  | .nil => rfl
  | .node l k r => by simp [T.dat, PyData.canLay0, PyData.canLayAll0, dat_lay l, dat_lay r]
theorem dat_depth : ∀ t : T, t.dat.depth ≤ t.ht + 1
  | .nil => by simp [T.dat, PyData.depth, PyData.depthAll]
  | .node l k r => by
    have := dat_depth l
    have := dat_depth r
    simp [T.dat, PyData.depth, PyData.depthAll, T.ht]
    omega
theorem dat_shaped {t : T} (h : t.ht ≤ 7) : SeqAt.shaped t.dat = true := by
  have := dat_depth t
  unfold SeqAt.shaped
  rw [dat_lay, decide_eq_true (by omega : t.dat.depth ≤ 64)]
  rfl
theorem dat_eqv : ∀ a b : T, PyData.eqv a.dat b.dat = decide (a = b)
  | .nil, .nil => by simp [T.dat, PyData.eqv, PyData.eqvAll]
  | .nil, .node l k r => by simp [T.dat, PyData.eqv, PyData.eqvAll]
  | .node l k r, .nil => by simp [T.dat, PyData.eqv, PyData.eqvAll]
  | .node l k r, .node l' k' r' => by
    have h1 := dat_eqv l l'
    have h2 := dat_eqv r r'
    simp only [T.dat, PyData.eqv, PyData.eqvAll, h1, h2]
    by_cases e1 : l = l' <;> by_cases e2 : k = k' <;> by_cases e3 : r = r' <;> simp [e1, e2, e3]

/-! ### == and != of shapes -/
section
variable {X : Cx}
theorem OpR.weak {f : Value → Value → Sem Value} {r r' : R2} (h : OpR X f r) (w : ∀ x y H Q, r' x y H Q → r x y H Q) : OpR X f r' :=
  fun pins s σ H x y v u Q I rx ry q => h pins s σ H x y v u Q I rx ry (w x y H Q q)
def rEqS : R2 := fun x y H Q => ∃ t u, Sh H x t ∧ Sh H y u ∧ t.ht ≤ 7 ∧ u.ht ≤ 7 ∧ Q (.bl (decide (t = u))) H
def rNeS : R2 := fun x y H Q => ∃ t u, Sh H x t ∧ Sh H y u ∧ t.ht ≤ 7 ∧ u.ht ≤ 7 ∧ Q (.bl (!decide (t = u))) H
theorem op_eqS (hu : X.A.units + 64 < cLine) : OpR X (compareOp .Eq) rEqS := OpR.weak (op_eqD hu) fun x y H Q ⟨t, u, h1, h2, b1, b2, q⟩ =>
  ⟨t.dat, u.dat, h1.dp, h2.dp, dat_shaped b1, dat_shaped b2, by rw [dat_eqv]; exact q⟩
theorem op_neS (hu : X.A.units + 64 < cLine) : OpR X (compareOp .NotEq) rNeS := OpR.weak (op_neD hu) fun x y H Q ⟨t, u, h1, h2, b1, b2, q⟩ =>
  ⟨t.dat, u.dat, h1.dp, h2.dp, dat_shaped b1, dat_shaped b2, by rw [dat_eqv]; exact q⟩
/-- lists of ints -/
theorem dp_ints {K : PySem.W.Frag} {H : Hp} : ∀ ns : List Int, DpAll K H (ns.map V.int) (ns.map PyData.int)
  | [] => .nil
  | n :: ns => .cons (.int n) (dp_ints ns)
theorem ints_lay : ∀ ns : List Int, PyData.canLayAll0 (ns.map PyData.int) = true
  | [] => rfl
  | n :: ns => by simp [PyData.canLayAll0, PyData.canLay0, ints_lay ns]
theorem ints_depth : ∀ ns : List Int, PyData.depthAll (ns.map PyData.int) ≤ 1
  | [] => by simp [PyData.depthAll]
  | n :: ns => by
    have := ints_depth ns
    simp [PyData.depthAll, PyData.depth]
    omega
theorem ints_shaped (ns : List Int) : SeqAt.shaped (.list (ns.map PyData.int)) = true := by
  have := ints_depth ns
  have h : (PyData.list (ns.map PyData.int)).depth ≤ 64 := by simp [PyData.depth]; omega
  unfold SeqAt.shaped
  rw [decide_eq_true h]
  simp [PyData.canLay0, ints_lay]
def rEqI (K : PySem.W.Frag) : R2 := fun x y H Q => ∃ (a b : Addr) (ns ms : List Int), x = .ref a ∧ y = .ref b ∧ SqL K H a (ns.map V.int) ∧ SqL K H b (ms.map V.int) ∧ Q (.bl (decide (ns = ms))) H
def rNeI (K : PySem.W.Frag) : R2 := fun x y H Q => ∃ (a b : Addr) (ns ms : List Int), x = .ref a ∧ y = .ref b ∧ SqL K H a (ns.map V.int) ∧ SqL K H b (ms.map V.int) ∧ Q (.bl (!decide (ns = ms))) H
theorem op_eqI (hu : X.A.units + 64 < cLine) : OpR X (compareOp .Eq) (rEqI X.K) := OpR.weak (op_eqD hu) fun x y H Q ⟨a, b, ns, ms, e1, e2, h1, h2, q⟩ => by
  subst e1 e2
  refine ⟨.list (ns.map PyData.int), .list (ms.map PyData.int), .lst h1 (dp_ints ns), .lst h2 (dp_ints ms), ints_shaped ns, ints_shaped ms, ?_⟩
  rw [PyData.eqv, PySem.W.ked_eqvAll]; exact q
theorem op_neI (hu : X.A.units + 64 < cLine) : OpR X (compareOp .NotEq) (rNeI X.K) := OpR.weak (op_neD hu) fun x y H Q ⟨a, b, ns, ms, e1, e2, h1, h2, q⟩ => by
  subst e1 e2
  refine ⟨.list (ns.map PyData.int), .list (ms.map PyData.int), .lst h1 (dp_ints ns), .lst h2 (dp_ints ms), ints_shaped ns, ints_shaped ms, ?_⟩
  rw [PyData.eqv, PySem.W.ked_eqvAll]; exact q
/-- a list of shapes against the empty list -/
inductive ShL (H : Hp) : List V → List T → Prop
  | nil : ShL H [] []
  | cons {v : V} {vs : List V} {t : T} {ts : List T} : Sh H v t → ShL H vs ts → ShL H (v :: vs) (t :: ts)
theorem ShL.mono {H H' : Hp} (e : Tps H H') {vs : List V} {ts : List T} (h : ShL H vs ts) : ShL H' vs ts := by
  induction h with
  | nil => exact .nil
  | cons h _ ih => exact .cons (h.mono e) ih
theorem ShL.snoc {H : Hp} {v : V} {t : T} (hv : Sh H v t) : ∀ {vs : List V} {ts : List T}, ShL H vs ts → ShL H (vs ++ [v]) (ts ++ [t])
  | _, _, .nil => .cons hv .nil
  | _, _, .cons h r => .cons h (ShL.snoc hv r)
theorem ShL.len {H : Hp} {vs : List V} {ts : List T} (h : ShL H vs ts) : vs.length = ts.length := by
  induction h with
  | nil => rfl
  | cons _ _ ih => simp [ih]
theorem ShL.get {H : Hp} : ∀ {vs : List V} {ts : List T} {i : Nat} {v : V}, ShL H vs ts → vs[i]? = some v → ∃ t, ts[i]? = some t ∧ Sh H v t
  | _, _, _, _, .nil, e => by simp at e
  | _, _, 0, _, .cons h _, e => by simp at e; subst e; exact ⟨_, rfl, h⟩
  | _, _, i + 1, _, .cons _ r, e => by
    obtain ⟨t, h1, h2⟩ := ShL.get (i := i) r (by simpa using e)
    exact ⟨t, by simpa using h1, h2⟩
theorem ShL.dp {K : PySem.W.Frag} {H : Hp} {vs : List V} {ts : List T} (h : ShL H vs ts) : DpAll K H vs (ts.map T.dat) := by
  induction h with
  | nil => exact .nil
  | cons h _ ih => exact .cons h.dp ih
theorem dats_lay : ∀ ts : List T, PyData.canLayAll0 (ts.map T.dat) = true
  | [] => rfl
  | t :: ts => by simp [PyData.canLayAll0, dat_lay, dats_lay ts]
theorem dats_depth : ∀ ts : List T, (∀ t ∈ ts, t.ht ≤ 7) → PyData.depthAll (ts.map T.dat) ≤ 8
  | [], _ => by simp [PyData.depthAll]
  | t :: ts, h => by
    have := dats_depth ts fun u hu => h u (List.mem_cons_of_mem _ hu)
    have := dat_depth t
    have := h t List.mem_cons_self
    simp [PyData.depthAll]
    omega
def rNeL (K : PySem.W.Frag) : R2 := fun x y H Q => ∃ a b vs ts, x = .ref a ∧ y = .ref b ∧ SqL K H a vs ∧ ShL H vs ts ∧ (∀ t ∈ ts, t.ht ≤ 7) ∧ SqL K H b [] ∧ Q (.bl (!decide (ts = []))) H
theorem op_neL (hu : X.A.units + 64 < cLine) : OpR X (compareOp .NotEq) (rNeL X.K) := OpR.weak (op_neD hu) fun x y H Q ⟨a, b, vs, ts, e1, e2, h1, h2, h3, h4, q⟩ => by
  subst e1 e2
  have hd := dats_depth ts h3
  refine ⟨.list (ts.map T.dat), .list [], .lst h1 h2.dp, .lst h4 .nil, ?_, rfl, ?_⟩
  · have h : (PyData.list (ts.map T.dat)).depth ≤ 64 := by simp [PyData.depth]; omega
    unfold SeqAt.shaped
    rw [decide_eq_true h]
    simp [PyData.canLay0, dats_lay]
  · have e : PyData.eqv (.list (ts.map T.dat)) (.list []) = decide (ts = []) := by
      cases ts with
      | nil => rfl
      | cons t ts => simp [PyData.eqv, PyData.eqvAll]
    rw [e]; exact q
end

/-! ### a shape as a key -/
def T.key : T → NestedKey
  | .nil => .tup []
  | .node l k r => .tup [l.key, .num k, r.key]
theorem key_inj : ∀ a b : T, a.key = b.key → a = b
  | .nil, .nil, _ => rfl
  | .nil, .node l k r, h => by simp [T.key] at h
  | .node l k r, .nil, h => by simp [T.key] at h
  | .node l k r, .node l' k' r', h => by
    simp only [T.key, NestedKey.tup.injEq, List.cons.injEq, NestedKey.num.injEq] at h
    obtain ⟨h1, h2, h3, _⟩ := h
    rw [key_inj l l' h1, h2, key_inj r r' h3]
theorem key_depth : ∀ t : T, t.key.depth ≤ t.ht + 1
  | .nil => by simp [T.key, NestedKey.depth, NestedKey.depthAll]
  | .node l k r => by
    have := key_depth l
    have := key_depth r
    simp [T.key, NestedKey.depth, NestedKey.depthAll, T.ht]
    omega
theorem Sh.is {P : Program} {w : World} {H : Hp} {h : Heap} (hok : HOk P w H h) {v : V} {t : T} (x : Sh H v t) : ∀ u, RelV v u → NestedIs h t.key u := by
  induction x with
  | @nil a e =>
    intro u r
    cases (show u = Value.ref a from r)
    obtain ⟨_, its, rv, o, ho, hc, n, hd⟩ := hok a _ e
    cases rv
    exact .tup ho hc hd .nil
  | @node a x y k l r' e _ _ i1 i2 =>
    intro u r
    cases (show u = Value.ref a from r)
    obtain ⟨_, its, rv, o, ho, hc, n, hd⟩ := hok a _ e
    cases rv with
    | cons r1 rv =>
      cases rv with
      | cons r2 rv =>
        cases rv with
        | cons r3 rv =>
          cases rv
          obtain ⟨t, rfl⟩ := r2
          exact .tup ho hc hd (.cons (i1 _ r1) (.cons (.int k t) (.cons (i2 _ r3) .nil)))

/-! ### a dict whose keys are shapes -/
def NdO (P : Program) (w : World) (d : Addr) (xs : List (NestedKey × Addr × Value)) : HO := .ext fun h =>
  ∃ o es ep, h.get? d = some o ∧ o.ExactDict ∧ o.data = .dict es ep ∧ es.toList = xs.map (entryOfKey (nestedKind P w)) ∧ (xs.map (·.1)).Nodup ∧ (d == sysModules) = false
def DRel (H : Hp) (p : T × V) (x : NestedKey × Addr × Value) : Prop := x.1 = p.1.key ∧ Sh H (.ref x.2.1) p.1 ∧ RelV p.2 x.2.2
structure DN (P : Program) (w : World) (H : Hp) (d : Addr) (kvs : List (T × V)) : Prop where
  sz : kvs.length ≤ sizeLine
  ht : ∀ p, p ∈ kvs → p.1.ht ≤ 7
  ex : ∃ xs, H d = some (NdO P w d xs) ∧ Paired (DRel H) kvs xs
section
variable {P : Program} {w : World} {H H' : Hp} {d : Addr} {kvs : List (T × V)}
theorem DN.keep (h : DN P w H d kvs) (hd : ∀ o, H d = some o → H' d = some o) (ht : Tps H H') : DN P w H' d kvs := by
  obtain ⟨z, b, xs, e, r⟩ := h
  exact ⟨z, b, xs, hd _ e, Paired.mapP r fun p x q => ⟨q.1, q.2.1.mono ht, q.2.2⟩⟩
theorem DN.same (h : DN P w H d kvs) (e : Same H H') : DN P w H' d kvs := h.keep (fun o q => e d o q) (tps_same e)
theorem DN.there (h : DN P w H d kvs) : ∃ φ, H d = some (.ext φ) := by
  obtain ⟨_, _, xs, e, _⟩ := h
  exact ⟨_, e⟩
theorem DN.ntup (h : DN P w H d kvs) : ∀ xs, H d ≠ some (.tup xs) := fun xs z => by
  obtain ⟨φ, e⟩ := h.there
  rw [e] at z; cases z
theorem nd_ok {h : Heap} {xs : List (NestedKey × Addr × Value)} (dd : h.DictOfH (nestedKind P w) d xs) (hd : (d == sysModules) = false) : ObjOk P w H h d (NdO P w d xs) := by
  obtain ⟨o, es, ep, h1, h2, h3, h4, h5, h6⟩ := dd
  exact ⟨⟨o, es, ep, h1, h2, h3, h4, h6, hd⟩, ⟨o, h1⟩, fun g1 g2 p k => by
    obtain ⟨o, es, ep, h1, h2⟩ := p
    exact ⟨o, es, ep, k o h1, h2⟩⟩
theorem drel_mem : ∀ {kvs : List (T × V)} {xs : List (NestedKey × Addr × Value)}, Paired (DRel H) kvs xs → ∀ {t : T} {v : V}, (t, v) ∈ kvs → ∃ a u, (t.key, a, u) ∈ xs ∧ RelV v u
  | _, _, .nil, _, _, h => by cases h
  | _, _, .cons (a := p) (b := x) r rs, t, v, h => by
    rcases List.mem_cons.mp h with e | h
    · subst e
      obtain ⟨e, _, rv⟩ := r
      have e : x.1 = t.key := e
      exact ⟨x.2.1, x.2.2, by rw [← e]; exact List.mem_cons_self, rv⟩
    · obtain ⟨a, u, m, rv⟩ := drel_mem rs h
      exact ⟨a, u, List.mem_cons_of_mem _ m, rv⟩
theorem drel_keys : ∀ {kvs : List (T × V)} {xs : List (NestedKey × Addr × Value)}, Paired (DRel H) kvs xs → xs.map (·.1) = kvs.map fun p => p.1.key
  | _, _, .nil => rfl
  | _, _, .cons r rs => by
    rw [List.map_cons, List.map_cons, drel_keys rs, r.1]
theorem at_mem {xs : List (NestedKey × Addr × Value)} (hn : (xs.map (·.1)).Nodup) {k : NestedKey} {a : Addr} {u : Value} (h : (k, a, u) ∈ xs) : atKey xs k = some (a, u) := by
  obtain ⟨i, hi⟩ := List.getElem?_of_mem h
  exact atKey_of_get hn hi
theorem at_none {xs : List (NestedKey × Addr × Value)} {k : NestedKey} (h : ¬ k ∈ xs.map (·.1)) : atKey xs k = none := by
  unfold atKey
  rw [List.find?_eq_none.mpr fun x hx => ?_]
  · rfl
  · simp only [decide_eq_true_eq]
    exact fun e => h (List.mem_map.mpr ⟨x, hx, e⟩)
theorem keys_iff {kvs : List (T × V)} {xs : List (NestedKey × Addr × Value)} (r : Paired (DRel H) kvs xs) (t : T) : t.key ∈ xs.map (·.1) ↔ t ∈ kvs.map (·.1) := by
  rw [drel_keys r]
  constructor
  · intro h
    obtain ⟨p, hp, e⟩ := List.mem_map.mp h
    exact List.mem_map.mpr ⟨p, hp, key_inj _ _ e⟩
  · intro h
    obtain ⟨p, hp, e⟩ := List.mem_map.mp h
    exact List.mem_map.mpr ⟨p, hp, by rw [e]⟩
theorem at_isSome {kvs : List (T × V)} {xs : List (NestedKey × Addr × Value)} (r : Paired (DRel H) kvs xs) (hn : (xs.map (·.1)).Nodup) (t : T) : (atKey xs t.key).isSome = decide (t ∈ kvs.map (·.1)) := by
  by_cases h : t ∈ kvs.map (·.1)
  · rw [decide_eq_true h]
    obtain ⟨p, hp, e⟩ := List.mem_map.mp h
    obtain ⟨p1, p2⟩ := p
    have e : p1 = t := e
    subst e
    obtain ⟨a, u, m, _⟩ := drel_mem r hp
    rw [at_mem hn m]; rfl
  · rw [decide_eq_false h, at_none fun z => h ((keys_iff r t).mp z)]; rfl
end
section
variable {X : Cx} {pins : List (Addr × Obj)} {σ : L2.St} {H : Hp} {s : Shared} {d : Addr} {kvs : List (T × V)}
theorem DN.at (I : Inv X pins σ H s) (h : DN X.prog X.w H d kvs) : ∃ xs, s.heap.DictOfH (nestedKind X.prog X.w) d xs ∧ H d = some (NdO X.prog X.w d xs) ∧ Paired (DRel H) kvs xs ∧ (xs.map (·.1)).Nodup ∧ (d == sysModules) = false ∧ xs.length = kvs.length := by
  obtain ⟨z, b, xs, e, r⟩ := h
  obtain ⟨⟨o, es, ep, h1, h2, h3, h4, h5, h6⟩, _⟩ := I.hok d _ e
  refine ⟨xs, ⟨o, es, ep, h1, h2, h3, h4, ?_, h5⟩, e, r, h5, h6, (Paired.length r).symm⟩
  have go : ∀ {kvs : List (T × V)} {xs : List (NestedKey × Addr × Value)}, Paired (DRel H) kvs xs → (∀ p ∈ kvs, p.1.ht ≤ 7) → ∀ x ∈ xs, (nestedKind X.prog X.w).is s.heap x.1 x.2.1 := by
    intro kvs xs r
    induction r with
    | nil => intro _ x hx; cases hx
    | @cons p y l1 l2 q _ ih =>
      intro hb x hx
      rcases List.mem_cons.mp hx with e | hx
      · subst e
        obtain ⟨e1, e2, e3⟩ := q
        have := key_depth p.1
        have := hb p List.mem_cons_self
        exact ⟨by rw [e1]; exact e2.is I.hok _ rfl, by rw [e1]; omega⟩
      · exact ih (fun p hp => hb p (List.mem_cons_of_mem _ hp)) x hx
  exact go r b
theorem Sh.isK (I : Inv X pins σ H s) {a : Addr} {t : T} (h : Sh H (.ref a) t) (hb : t.ht ≤ 7) : (nestedKind X.prog X.w).is s.heap t.key a :=
  ⟨h.is I.hok _ rfl, by have := key_depth t; omega⟩
end
section
variable {X : Cx}
def rNIn (P : Program) (w : World) (neg : Bool) : R2 := fun x y H Q => ∃ t d kvs, Sh H x t ∧ t.ht ≤ 7 ∧ y = .ref d ∧ DN P w H d kvs ∧ Q (.bl (if neg then !decide (t ∈ kvs.map (·.1)) else decide (t ∈ kvs.map (·.1)))) H
theorem room_in {A : Around} (hu : A.units + 64 < cLine) : (nestedKind X.prog X.w).room A.in1 := by
  show A.units + 1 + 8 < cLine
  omega
theorem op_nin (hu : X.A.units + 64 < cLine) : OpR X (compareOp .In) (rNIn X.prog X.w false) := by
  intro pins s σ H x y v u Q I rx ry h
  obtain ⟨t, d, kvs, hs, hb, rfl, hd, q⟩ := h
  obtain ⟨a, rfl⟩ := hs.ref
  cases (show v = Value.ref a from rx)
  cases (show u = Value.ref d from ry)
  obtain ⟨xs, dd, _, r, hn, hm, _⟩ := hd.at I
  refine wpAny_in_heap (room_in (X := X) hu) (hs.isK I hb) hm dd ⟨.bl _, H, I.tok _, rfl, ?_⟩
  rw [at_isSome r hn t]; exact q
theorem op_nnotin (hu : X.A.units + 64 < cLine) : OpR X (compareOp .NotIn) (rNIn X.prog X.w true) := by
  intro pins s σ H x y v u Q I rx ry h
  obtain ⟨t, d, kvs, hs, hb, rfl, hd, q⟩ := h
  obtain ⟨a, rfl⟩ := hs.ref
  cases (show v = Value.ref a from rx)
  cases (show u = Value.ref d from ry)
  obtain ⟨xs, dd, _, r, hn, hm, _⟩ := hd.at I
  show wpAny _ _ (do return Value.bool (!(← contains (.ref d) (.ref a)))) _ _ s
  refine wpAny_bind (wpAny_contains_heap (room_in (X := X) hu) (hs.isK I hb) hm dd (wpAny_pure ⟨.bl _, H, I.tok _, rfl, ?_⟩))
  rw [at_isSome r hn t]; exact q
/-- d[k] -/
def rNGet (P : Program) (w : World) : R2 := fun x y H Q => ∃ d kvs t v, x = .ref d ∧ DN P w H d kvs ∧ Sh H y t ∧ t.ht ≤ 7 ∧ (t, v) ∈ kvs ∧ Q v H
theorem pe_nget {o i : Expr} {td ty : TE} {pos : Pos} (hu : X.A.units + 64 < cLine) (ho : PE X o td) (hi : PE X i ty) (hs : NoSl i) : PE X (.Subscript o i pos) (tOp (rNGet X.prog X.w) td ty) := by
  refine ⟨fun pins s σ H Q I h => ?_⟩
  refine subD_of PySem.F.slot_dict_getitem.lookup hs (thn (ho.run pins s σ H _ I h) fun u s1 ⟨x, H1, I1, rx, q1⟩ => thn (hi.run pins s1 σ H1 _ I1 q1) fun iv s2 ⟨y, H2, I2, ry, q2⟩ => ?_)
  obtain ⟨d, kvs, t, z, rfl, hd, hk, hb, hm, q⟩ := q2
  obtain ⟨a, rfl⟩ := hk.ref
  cases (show u = Value.ref d from rx)
  cases (show iv = Value.ref a from ry)
  obtain ⟨xs, dd, _, r, hn, _, _⟩ := hd.at I2
  obtain ⟨b, w', hx, rw'⟩ := drel_mem r hm
  exact ⟨dd.typeIs, wpAny_getItem_heap (room_in (X := X) hu) (hk.isK I2 hb) dd (at_mem hn hx) ⟨z, H2, I2.tok _, rw', q⟩⟩
/-- d[k] = v, k not there -/
def rNSet (P : Program) (w : World) : TSet := fun o i v H Q => ∃ d kvs t, o = .ref d ∧ DN P w H d kvs ∧ Sh H i t ∧ t.ht ≤ 7 ∧ ¬ t ∈ kvs.map (·.1) ∧ kvs.length < sizeLine ∧ ∀ ob, DN P w (upd H d ob) d (kvs ++ [(t, v)]) → Q (upd H d ob)
theorem set_nd (hu : X.A.units + 64 < cLine) : PSet X (rNSet X.prog X.w) := by
  intro pins s σ H o i v ov iv u Q I ro ri rv h
  obtain ⟨d, kvs, t, rfl, hd, hs, hb, hm, hz, q⟩ := h
  obtain ⟨a, rfl⟩ := hs.ref
  cases (show ov = Value.ref d from ro)
  cases (show iv = Value.ref a from ri)
  obtain ⟨xs, dd, e, r, hn, hsys, hl⟩ := hd.at I
  have hno : atKey xs t.key = none := at_none fun z => hm ((keys_iff r t).mp z)
  refine wpAny_setItem_heap (hsz := by rw [hl]; exact hd.sz) (room_in (X := X) hu) (hs.isK I hb) dd fun h' dd' sb => ?_
  rw [storedH_new hno] at dd'
  have hk := tps_upd (o := NdO X.prog X.w d (xs ++ [(t.key, a, u)])) hd.ntup
  have he : ∃ q, h'.get? d = some q := let ⟨q, _, _, hq, _⟩ := dd'; ⟨q, hq⟩
  refine ⟨upd H d (NdO X.prog X.w d (xs ++ [(t.key, a, u)])), I.write (x := d) (e := d) (by rw [e]; exact True.intro) (.inl rfl) (fun b q hb z => (sb.2 b hb).trans z) he (nd_ok dd' hsys), ?_⟩
  refine q _ ⟨by rw [List.length_append]; exact hz, fun p hp => ?_, _, upd_same, ?_⟩
  · rcases List.mem_append.mp hp with z | z
    · exact hd.ht p z
    · have e : p = (t, v) := by simpa using z
      subst e; exact hb
  · exact Paired.snoc (Paired.mapP r fun p x z => ⟨z.1, z.2.1.mono hk, z.2.2⟩) ⟨rfl, hs.mono hk, rv⟩
/-- {} -/
def tNNew (P : Program) (w : World) : TE := fun _ H Q => ∀ p ob, H p = none → DN P w (upd H p ob) p [] → Q (.ref p) (upd H p ob)
theorem nd_empty (h : Heap) (hb : sysModules < h.objs.size) {H : Hp} {P : Program} {w : World} : ObjOk P w H (h.push { cls := .type "dict", data := .dict #[] }) h.objs.size (NdO P w h.objs.size []) :=
  nd_ok (Heap.DictOfH.new h) (beq_eq_false_iff_ne.mpr (Ne.symm (Nat.ne_of_lt hb)))
theorem pe_nnew {pos : Pos} : PE X (.Dict [] [] pos) (tNNew X.prog X.w) := ⟨fun pins s σ H Q I h =>
  wpAny_Dict_empty ⟨.ref s.heap.objs.size, _, I.laid (a := s.heap.objs.size) (o := NdO X.prog X.w s.heap.objs.size []) (t' := s.toks) (fun _ _ q => Heap.get?_push_of_some _ q) (Nat.le_refl _) (nd_empty s.heap I.big), rfl,
    h _ _ (I.hok.fresh (Nat.le_refl _)) ⟨Nat.zero_le _, fun p hp => (by cases hp), [], upd_same, .nil⟩⟩⟩
/-- a display of one pair whose key is a shape, by the library's walk over its pairs -/
theorem ndisp_one {P : Program} {w : World} {A : Around} {E : Value → Shared → Prop} {s : Shared} {env : Env} {k v : Expr} {pos : Pos} {Q : Value → Shared → Prop} (hu : (nestedKind P w).room A)
    (h : wpAny (model P w) A (evalPairs (pairTrees [some k] [v] env pos)) (fun vs s1 => ∃ key a x, vs = [(Value.ref a, x)] ∧ (nestedKind P w).is s1.heap key a ∧ s1.heap.DictOfH (nestedKind P w) s.heap.objs.size [] ∧
      ∀ g tk, g.DictOfH (nestedKind P w) s.heap.objs.size [(key, a, x)] → Heap.SameBut s.heap.objs.size s1.heap g → Q (.ref s.heap.objs.size) { s1 with heap := g, toks := tk }) E { s with heap := s.heap.push { cls := .type "dict", data := .dict #[] } }) :
    wpAny (model P w) A (eval (.Dict [some k] [v] pos) env) Q E s := by
  rw [arm_eval_Dict, zip_pairTrees [some k] [v] env pos rfl rfl, dictDisplay_pairs _ (by intro z; cases z) (by show 1 < 17; decide)]
  refine wpAny_bind (wpAny_standAt (wpAny_bind ?_))
  refine wpAny_subDictH (knd := nestedKind P w) hu (by show 1 ≤ 15; decide) (thn h fun vs s1 q => ?_)
  obtain ⟨key, a, x, rfl, hk, hd, q⟩ := q
  exact ⟨[(key, a, x)], ⟨rfl, rfl, hk, True.intro⟩, hd, fun g tk hg hb => wpAny_pure (q g tk hg hb)⟩
/-- {k: v} -/
def tNDisp (P : Program) (w : World) (tk tv : TE) : TE := fun σ H Q => ∀ p ob, H p = none → DN P w (upd H p ob) p [] → tk σ (upd H p ob) fun x H1 => tv σ H1 fun y H2 =>
  ∃ t, Sh H2 x t ∧ t.ht ≤ 7 ∧ DN P w H2 p [] ∧ ∀ ob', DN P w (upd H2 p ob') p [(t, y)] → Q (.ref p) (upd H2 p ob')
theorem pe_ndisp {k v : Expr} {tk tv : TE} {pos : Pos} (hu : X.A.units + 64 < cLine) (hk : PE X k tk) (hv : PE X v tv) : PE X (.Dict [some k] [v] pos) (tNDisp X.prog X.w tk tv) := by
  refine ⟨fun pins s σ H Q I q => ?_⟩
  have hn := I.hok.fresh (Nat.le_refl s.heap.objs.size)
  have I1 := I.laid (a := s.heap.objs.size) (o := NdO X.prog X.w s.heap.objs.size []) (h' := s.heap.push { cls := .type "dict", data := .dict #[] }) (t' := s.toks) (fun _ _ q => Heap.get?_push_of_some _ q) (Nat.le_refl _) (nd_empty s.heap I.big)
  have q1 := q _ (NdO X.prog X.w s.heap.objs.size []) hn ⟨Nat.zero_le _, fun p hp => (by cases hp), [], upd_same, .nil⟩
  refine ndisp_one (by show X.A.units + 8 < cLine; omega) ?_
  refine pairTrees_cons_walk (thn (hk.run pins _ σ _ _ I1 q1) fun u s1 ⟨x, H1, I2, rx, q2⟩ => thn (hv.run pins s1 σ H1 _ I2 q2) fun w2 s2 ⟨y, H2, I3, ry, q3⟩ => pairTrees_nil_walk ?_)
  obtain ⟨t, hs, hb, hd, q4⟩ := q3
  obtain ⟨a, rfl⟩ := hs.ref
  cases (show u = Value.ref a from rx)
  obtain ⟨xs, dd, e, r, _, hsys, _⟩ := hd.at I3
  cases r
  refine ⟨t.key, a, w2, rfl, hs.isK I3 hb, dd, fun h' tk' dd' sb => ?_⟩
  have hk2 := tps_upd (o := NdO X.prog X.w s.heap.objs.size [(t.key, a, w2)]) hd.ntup
  have he : ∃ q, h'.get? s.heap.objs.size = some q := let ⟨q, _, _, hq, _⟩ := dd'; ⟨q, hq⟩
  refine ⟨.ref s.heap.objs.size, upd H2 s.heap.objs.size (NdO X.prog X.w s.heap.objs.size [(t.key, a, w2)]), I3.write (x := s.heap.objs.size) (e := s.heap.objs.size) (by rw [e]; exact True.intro) (.inl rfl) (fun b q hb z => (sb.2 b hb).trans z) he (nd_ok dd' hsys), rfl, ?_⟩
  refine q4 _ ⟨by show 1 ≤ sizeLine; decide, fun p hp => ?_, _, upd_same, .cons ⟨rfl, hs.mono hk2, ry⟩ .nil⟩
  have e : p = (t, y) := by simpa using hp
  subst e; exact hb
end
end TT


/-! KW1 -/
namespace TT
open PySem PySem.Spec PyProof.Rows L2

def top (i : Nat) : Stmt := PySem.Challenge.pw_turnedtrees_k03_whole_distances.main.body.getD i (.Pass ⟨0, 0, 0, 0⟩)
abbrev sNum : Stmt := top 7
abbrev sBet : Stmt := top 8
abbrev sIsS : Stmt := top 9
abbrev sNeed : Stmt := top 10
abbrev sKeys : Stmt := top 11
abbrev sThere : Stmt := top 12
abbrev sLup : Stmt := top 14
abbrev sRup : Stmt := top 15
abbrev sTurned : Stmt := top 16
abbrev sRot : Stmt := top 17
abbrev sNear : Stmt := top 18
abbrev sWays : Stmt := top 19
abbrev sSame : Stmt := top 20
abbrev sDist : Stmt := top 21
abbrev sFirst : Stmt := top 22
abbrev sDraw : Stmt := top 24
abbrev sSome : Stmt := top 32
abbrev sShape : Stmt := top 33
abbrev sTurn : Stmt := top 34
abbrev sLfirst : Stmt := top 35
abbrev sLaw : Stmt := top 36

/-- a def as it stands; a def that keeps a promise -/
def Df (K : PySem.W.Frag) (mg : Str → Option Value) (x : Str) (st : Stmt) (ps : List Str) : Prop := ∃ f fd, Fun K x x st f fd ∧ Binds K fd ps [] ∧ mg x = some (.ref f)
def Cal (P : Program) (w : World) (K : PySem.W.Frag) (mg : Str → Option Value) (base : Heap) (k : Nat) (x : Str) (ps : List Str) (sp : Sp) : Prop :=
  ∃ f fd, FnOk P w K mg base CX0 k f fd ps sp ∧ Binds K fd ps [] ∧ PySem.W.keepIn K (.ref f) = true ∧ mg x = some (.ref f)
section
variable {P : Program} {w : World} {K : PySem.W.Frag} {mg : Str → Option Value} {base : Heap}
theorem Df.cal {x : Str} {st : Stmt} {ps : List Str} {k : Nat} {sp : Sp} (D : Df K mg x st ps) (h : ∀ f fd, Fun K x x st f fd → FnOk P w K mg base CX0 k f fd ps sp) : Cal P w K mg base k x ps sp := by
  obtain ⟨f, fd, F, b, m⟩ := D
  exact ⟨f, fd, h f fd F, b, F.kp, m⟩
theorem Cal.mono {x : Str} {ps : List Str} {j k : Nat} {sp : Sp} (D : Cal P w K mg base j x ps sp) (h : j ≤ k) : Cal P w K mg base k x ps sp := by
  obtain ⟨f, fd, F, b, kp, m⟩ := D
  exact ⟨f, fd, F.mono h, b, kp, m⟩
/-- nothing is asked -/
theorem Df.none {x : Str} {st : Stmt} {ps : List Str} {k : Nat} {sp : Sp} (D : Df K mg x st ps) (no : ∀ vs H Q E, ¬ sp vs H Q E) : Cal P w K mg base k x ps sp :=
  D.cal fun f fd _ => ⟨fun vs H Q E h => absurd h (no vs H Q E), fun A outer s H args us vs Q E _ _ _ _ h => absurd h (no vs H Q E)⟩

/-! ### is_number -/
def spNum : Sp := fun vs H Q _ => ∃ v a b : Int, vs = [.int v, .int a, .int b] ∧ Q (.bl (decide (a ≤ v) && decide (v ≤ b))) H
theorem scNum : FnScope ["value", "least", "most"] ["value", "least", "most"] (defScope sNum) := ⟨rfl, rfl, rfl, by decide +kernel, rfl, by decide +kernel, by decide +kernel⟩
theorem ok_num (D : Df K mg "is_number" sNum ["value", "least", "most"]) (mi : mg "isinstance" = none) (mI : mg "int" = none) (mB : mg "bool" = none) : Cal P w K mg base 1 "is_number" ["value", "least", "most"] spNum := by
  refine D.cal fun f fd F => F.ok scNum (fun vs H Q E h => ?_) (fun cdv A outer s H vs Q E hr h => ?_)
  · obtain ⟨v, a, b, rfl, _⟩ := h
    rfl
  obtain ⟨v, a, b, rfl, q⟩ := h
  refine ⟨_, pss_one (ps_ret (pe_and (pe_callB call_isi (by rfl) mi boot_isinstance (pa_cons (pv 0) (pa_cons (pe_bltn (v := .ty "int") (by rfl) mI (by decide +kernel) rfl) pa_nil)))
    (pe_and (pe_not (pe_callB call_isi (by rfl) mi boot_isinstance (pa_cons (pv 0) (pa_cons (pe_bltn (v := .ty "bool") (by rfl) mB (by decide +kernel) rfl) pa_nil))))
    (pe_one (pe_chain op_le op_le (pv 1) (pv 0) (pv 2)))))), ?_⟩
  refine ⟨_, rfl, _, _, _, _, true, rfl, .ty "int", .base (.int v), kit_ty (by decide +kernel), true, rfl, iteT ?_⟩
  refine ⟨_, rfl, _, _, _, _, false, rfl, .ty "bool", .base (.int v), kit_ty (by decide +kernel), false, rfl, true, rfl, iteT ?_⟩
  refine ⟨_, rfl, _, rfl, _, _, rfl, rfl, _, rfl, ?_⟩
  refine ite2 (fun c => ?_) (fun c => ?_)
  · refine ⟨_, rfl, _, _, rfl, rfl, ?_⟩
    rw [c] at q
    exact q
  · rw [Bool.eq_false_iff.mpr c] at q
    exact q
end
end TT


/-! KW2 -/
namespace TT
open PySem PySem.Spec PyProof.Rows L2
section
variable {P : Program} {w : World} {K : PySem.W.Frag} {mg : Str → Option Value} {base : Heap}
theorem sz3 : 3 ≤ sizeLine := by decide
theorem sz2 : 2 ≤ sizeLine := by decide
theorem sz1 : 1 ≤ sizeLine := by decide
theorem sz0 : 0 ≤ sizeLine := by decide
theorem sz_le {n : Nat} (h : n ≤ 1000) : n ≤ sizeLine := Nat.le_of_lt (small1000 h)
theorem same_upd {H H1 : Hp} {p : Addr} (e : Same H H1) (h : H1 p = none) (o : HO) : Same H (upd H1 p o) := e.trans (same_new h o)
/-- what stands at a shape -/
theorem Sh.cases {H : Hp} {v : V} {t : T} (h : Sh H v t) : ∃ a, v = .ref a ∧ ((t = .nil ∧ H a = some (.tup [])) ∨ ∃ x k y l r, t = .node l k r ∧ H a = some (.tup [x, .int k, y]) ∧ Sh H x l ∧ Sh H y r) := by
  cases h with
  | nil h => exact ⟨_, rfl, .inl ⟨rfl, h⟩⟩
  | node h h1 h2 => exact ⟨_, rfl, .inr ⟨_, _, _, _, _, rfl, h, h1, h2⟩⟩
theorem Sh.nilt {H : Hp} {a : Addr} (h : Sh H (.ref a) .nil) : H a = some (.tup []) := by
  cases h with
  | nil h => exact h
theorem Sh.nodet {H : Hp} {a : Addr} {l r : T} {k : Int} (h : Sh H (.ref a) (.node l k r)) : ∃ x y, H a = some (.tup [x, .int k, y]) ∧ Sh H x l ∧ Sh H y r := by
  cases h with
  | node h h1 h2 => exact ⟨_, _, h, h1, h2⟩
theorem sh_nil {H : Hp} {p : Addr} (h : H p = none) : Sh (upd H p (.tup [])) (.ref p) .nil := .nil upd_same
/-- the answer of a test that is known -/
theorem iteB {A B : Prop} {b c : Bool} (e : b = c) (h : if c = true then A else B) : if b = true then A else B := by rw [e]; exact h

/-! ### is_between -/
def spBet (n : Nat) : Sp := fun vs H Q _ => ∃ (v : V) (lo hi : Int) (t : T), vs = [v, .int lo, .int hi] ∧ Sh H v t ∧ t.ht < n ∧ t.ht ≤ 7 ∧ Bet lo hi t ∧ ∀ H', Same H H' → Q (.bl true) H'
theorem scBet : FnScope ["value", "low", "high"] ["value", "low", "high"] (defScope sBet) := ⟨rfl, rfl, rfl, by decide +kernel, rfl, by decide +kernel, by decide +kernel⟩
theorem ok_bet1 {n : Nat} (D : Df K mg "is_between" sBet ["value", "low", "high"]) (N : Cal P w K mg base (n + 1) "is_number" ["value", "least", "most"] spNum) (R : Cal P w K mg base (n + 1) "is_between" ["value", "low", "high"] (spBet n))
    (mi : mg "isinstance" = none) (mT : mg "tuple" = none) (ml : mg "len" = none) : Cal P w K mg base (n + 2) "is_between" ["value", "low", "high"] (spBet (n + 1)) := by
  obtain ⟨g, gd, GN, bN, kN, mN⟩ := N
  obtain ⟨r, rd, GR, bR, kR, mR⟩ := R
  refine D.cal fun f fd F => F.ok scBet (fun vs H Q E h => ?_) (fun cdv A outer s H vs Q E hr h => ?_)
  · obtain ⟨v, lo, hi, t, rfl, _⟩ := h
    rfl
  obtain ⟨v, lo, hi, t, rfl, hs, h1, h2, hb, q⟩ := h
  obtain ⟨a, rfl, hc⟩ := hs.cases
  refine ⟨_, pss_cons (ps_if (PW.pt (pw_and (pt_cmpR (op_eqS hr.units) (pv 0) (pe_tup pa_nil) (nomark _)) (pw_and1 (pt_val (pe_callB call_isi (by rfl) mi boot_isinstance (pa_cons (pv 0) (pa_cons (pe_bltn (v := .ty "tuple") (by rfl) mT (by decide +kernel) rfl) pa_nil))))))) (pss_one (ps_ret pe_bl)) pss_nil)
    (pss_cons (ps_if (PW.pt (pw_or (pt_not (pt_val (pe_callB call_isi (by rfl) mi boot_isinstance (pa_cons (pv 0) (pa_cons (pe_bltn (v := .ty "tuple") (by rfl) mT (by decide +kernel) rfl) pa_nil)))))
      (pw_or (pt_cmpR op_ne (pe_callB call_len_seq (by rfl) ml PySem.boot_len (pa_cons (pv 0) pa_nil)) pe_int (nomark _))
      (pw_or1 (pt_not (pt_val (pe_call GN hr (by rfl) mN kN bN .nil pass0 (pa_cons (pe_ix ix_tup (pv 0) pe_int (fun _ _ => rfl)) (pa_cons (pv 1) (pa_cons (pv 2) pa_nil)))))))))) (pss_one (ps_ret pe_bl)) pss_nil)
    (pss_one (ps_ret (pe_and (pe_call GR hr (by rfl) mR kR bR .nil pass0 (pa_cons (pe_ix ix_tup (pv 0) pe_int (fun _ _ => rfl)) (pa_cons (pv 1) (pa_cons (pe_op op_sub (pe_ix ix_tup (pv 0) pe_int (fun _ _ => rfl)) pe_int) pa_nil))))
      (pe_one (pe_call GR hr (by rfl) mR kR bR .nil pass0 (pa_cons (pe_ix ix_tup (pv 0) pe_int (fun _ _ => rfl)) (pa_cons (pe_op op_add (pe_ix ix_tup (pv 0) pe_int (fun _ _ => rfl)) pe_int) (pa_cons (pv 2) pa_nil))))))))), ?_⟩
  refine ⟨_, rfl, sz0, fun p hp => ?_⟩
  have g1 : Same H (upd H p (.tup [])) := same_new hp _
  refine ⟨t, .nil, hs.mono (tps_same g1), .nil upd_same, h2, by decide, _, rfl, ?_⟩
  rcases hc with ⟨rfl, ht⟩ | ⟨x, k, y, l, r', rfl, ht, hl, hrr⟩
  · refine iteB (c := true) (decide_eq_true rfl) (iteT ?_)
    refine ⟨_, rfl, _, _, _, _, true, rfl, .ty "tuple", .base (.tup (g1 _ _ ht)), kit_ty (by decide +kernel), true, rfl, iteT ?_⟩
    exact q _ g1
  · refine iteB (c := false) (decide_eq_false (fun z => by cases z)) (iteF (iteF ?_))
    have ht1 := g1 _ _ ht
    refine ⟨_, rfl, _, _, _, _, true, rfl, .ty "tuple", .base (.tup ht1), kit_ty (by decide +kernel), true, rfl, iteF ?_⟩
    refine ⟨_, rfl, _, _, rfl, .inr (SqT.of ht1), rfl, false, rfl, iteF ?_⟩
    obtain ⟨b1, b2, b3⟩ := hb
    refine ⟨_, rfl, _, _, _, _, rfl, rfl, SqT.of ht1, atI_nat (j := 1) rfl, _, rfl, _, rfl, k, lo, hi, rfl, true, ?_, iteF ?_⟩
    · rw [decide_eq_true b1.1, decide_eq_true b1.2]; rfl
    have hh : (T.node l k r').ht = max l.ht r'.ht + 1 := rfl
    refine ⟨_, rfl, _, _, _, _, rfl, rfl, SqT.of ht1, atI_nat (j := 0) rfl, _, rfl, _, rfl, _, _, _, _, rfl, rfl, SqT.of ht1, atI_nat (j := 1) rfl, _, _, rfl, rfl, ?_⟩
    refine ⟨x, lo, k - 1, l, rfl, hl.mono (tps_same g1), by omega, by omega, b2, fun H1 g2 => ⟨true, rfl, iteT ?_⟩⟩
    have ht2 := g2 _ _ ht1
    refine ⟨_, rfl, _, _, _, _, rfl, rfl, SqT.of ht2, atI_nat (j := 2) rfl, _, rfl, _, _, _, _, rfl, rfl, SqT.of ht2, atI_nat (j := 1) rfl, _, _, rfl, rfl, _, rfl, ?_⟩
    exact ⟨y, k + 1, hi, r', rfl, hrr.mono (tps_same (g1.trans g2)), by omega, by omega, b3, fun H2 g3 => q _ (g1.trans (g2.trans g3))⟩
theorem ok_bet (D : Df K mg "is_between" sBet ["value", "low", "high"]) (N : Cal P w K mg base 1 "is_number" ["value", "least", "most"] spNum) (mi : mg "isinstance" = none) (mT : mg "tuple" = none) (ml : mg "len" = none) :
    ∀ n : Nat, Cal P w K mg base (n + 1) "is_between" ["value", "low", "high"] (spBet n)
  | 0 => D.none fun vs H Q E h => by
    obtain ⟨v, lo, hi, t, _, _, h1, _⟩ := h
    omega
  | n + 1 => ok_bet1 D (N.mono (by omega)) (ok_bet D N mi mT ml n) mi mT ml

/-! ### is_shape, need_shape -/
def Good (t : T) : Prop := t.ht ≤ 5 ∧ Bet 1 6 t
def spIsS : Sp := fun vs H Q _ => ∃ (v : V) (t : T), vs = [v] ∧ Sh H v t ∧ Good t ∧ ∀ H', Same H H' → Q (.bl true) H'
theorem scIsS : FnScope ["candidate"] ["candidate"] (defScope sIsS) := ⟨rfl, rfl, rfl, by decide +kernel, rfl, by decide +kernel, by decide +kernel⟩
theorem ok_isS (D : Df K mg "is_shape" sIsS ["candidate"]) (R : Cal P w K mg base 7 "is_between" ["value", "low", "high"] (spBet 6)) {u : Tok} (mM : mg "MOST" = some (.int 6 u)) : Cal P w K mg base 8 "is_shape" ["candidate"] spIsS := by
  obtain ⟨r, rd, GR, bR, kR, mR⟩ := R
  refine D.cal fun f fd F => F.ok scIsS (fun vs H Q E h => ?_) (fun cdv A outer s H vs Q E hr h => ?_)
  · obtain ⟨v, t, rfl, _⟩ := h
    rfl
  obtain ⟨v, t, rfl, hs, hg, q⟩ := h
  refine ⟨_, pss_one (ps_ret (pe_call GR hr (by rfl) mR kR bR .nil pass0 (pa_cons (pv 0) (pa_cons pe_int (pa_cons (pe_glob (v := .int 6) (by rfl) mM ⟨_, rfl⟩) pa_nil))))), ?_⟩
  have := hg.1
  exact ⟨_, rfl, v, 1, 6, t, rfl, hs, by omega, by omega, hg.2, q⟩
def spNeed : Sp := fun vs H Q _ => ∃ (v : V) (t : T), vs = [v] ∧ Sh H v t ∧ Good t ∧ ∀ H', Same H H' → Q .non H'
theorem scNeed : FnScope ["value"] ["value"] (defScope sNeed) := ⟨rfl, rfl, rfl, by decide +kernel, rfl, by decide +kernel, by decide +kernel⟩
theorem ok_need (D : Df K mg "need_shape" sNeed ["value"]) (R : Cal P w K mg base 8 "is_shape" ["candidate"] spIsS) : Cal P w K mg base 9 "need_shape" ["value"] spNeed := by
  obtain ⟨r, rd, GR, bR, kR, mR⟩ := R
  refine D.cal fun f fd F => F.ok scNeed (fun vs H Q E h => ?_) (fun cdv A outer s H vs Q E hr h => ?_)
  · obtain ⟨v, t, rfl, _⟩ := h
    rfl
  obtain ⟨v, t, rfl, hs, hg, q⟩ := h
  refine ⟨_, pss_one (ps_if (pt_not (pt_val (pe_call GR hr (by rfl) mR kR bR .nil pass0 (pa_cons (pv 0) pa_nil)))) pss_never pss_nil), ?_⟩
  exact ⟨_, rfl, v, t, rfl, hs, hg, fun H' g => ⟨true, rfl, iteF (q _ g)⟩⟩

/-! ### keys_of -/
def spKeys (n : Nat) : Sp := fun vs H Q _ => ∃ (v : V) (t : T), vs = [v] ∧ Sh H v t ∧ t.ht < n ∧ t.ht ≤ 7 ∧ t.keys.length ≤ 900 ∧ ∀ r H', Same H H' → H r = none → H' r = some (.lst (t.keys.map V.int)) → Q (.ref r) H'
theorem scKeys : FnScope ["shape"] ["shape"] (defScope sKeys) := ⟨rfl, rfl, rfl, by decide +kernel, rfl, by decide +kernel, by decide +kernel⟩
theorem ok_keys1 {n : Nat} (D : Df K mg "keys_of" sKeys ["shape"]) (R : Cal P w K mg base n "keys_of" ["shape"] (spKeys n)) : Cal P w K mg base (n + 1) "keys_of" ["shape"] (spKeys (n + 1)) := by
  obtain ⟨r, rd, GR, bR, kR, mR⟩ := R
  refine D.cal fun f fd F => F.ok scKeys (fun vs H Q E h => ?_) (fun cdv A outer s H vs Q E hr h => ?_)
  · obtain ⟨v, t, rfl, _⟩ := h
    rfl
  obtain ⟨v, t, rfl, hs, h1, h2, h3, q⟩ := h
  obtain ⟨a, rfl, hc⟩ := hs.cases
  refine ⟨_, pss_one (ps_ret (pe_ifExp (pt_cmpR (op_neS hr.units) (pv 0) (pe_tup pa_nil) (nomark _))
    (pe_op op_cat (pe_op op_cat (pe_call GR hr (by rfl) mR kR bR .nil pass0 (pa_cons (pe_ix ix_tup (pv 0) pe_int (fun _ _ => rfl)) pa_nil)) (pe_lst (pa_cons (pe_ix ix_tup (pv 0) pe_int (fun _ _ => rfl)) pa_nil)))
      (pe_call GR hr (by rfl) mR kR bR .nil pass0 (pa_cons (pe_ix ix_tup (pv 0) pe_int (fun _ _ => rfl)) pa_nil))) (pe_lst pa_nil))), ?_⟩
  refine ⟨_, rfl, sz0, fun p hp => ?_⟩
  have g1 : Same H (upd H p (.tup [])) := same_new hp _
  refine ⟨t, .nil, hs.mono (tps_same g1), .nil upd_same, h2, by decide, _, rfl, ?_⟩
  rcases hc with ⟨rfl, ht⟩ | ⟨x, k, y, l, r', rfl, ht, hl, hrr⟩
  · refine iteB (c := false) (by simp) (iteF ?_)
    exact ⟨sz0, fun r hr' => q _ _ (same_upd g1 hr' _) (g1.free hr') upd_same⟩
  · refine iteB (c := true) (by simp) (iteT ?_)
    have hh : (T.node l k r').ht = max l.ht r'.ht + 1 := rfl
    have hk : (T.node l k r').keys = l.keys ++ [k] ++ r'.keys := rfl
    have hl3 : l.keys.length + 1 + r'.keys.length ≤ 900 := by rw [hk] at h3; simp at h3; omega
    have ht1 := g1 _ _ ht
    refine ⟨_, rfl, _, _, _, _, rfl, rfl, SqT.of ht1, atI_nat (j := 0) rfl, ?_⟩
    refine ⟨x, l, rfl, hl.mono (tps_same g1), by omega, by omega, by omega, fun r1 H1 g2 n1 e1 => ?_⟩
    have ht2 := g2 _ _ ht1
    refine ⟨_, rfl, _, _, _, _, rfl, rfl, SqT.of ht2, atI_nat (j := 1) rfl, sz1, fun p2 hp2 => ?_⟩
    have g3 : Same H1 (upd H1 p2 (.lst [.int k])) := same_new hp2 _
    refine ⟨_, _, _, _, rfl, rfl, g3 _ _ e1, upd_same, sz_le (by rw [List.length_map]; simp; omega), fun p3 hp3 => ?_⟩
    have g4 := same_new hp3 (.lst (l.keys.map V.int ++ [V.int k]))
    have g14 := g1.trans (g2.trans (g3.trans g4))
    have ht4 := g4 _ _ (g3 _ _ ht2)
    refine ⟨_, rfl, _, _, _, _, rfl, rfl, SqT.of ht4, atI_nat (j := 2) rfl, ?_⟩
    refine ⟨y, r', rfl, hrr.mono (tps_same g14), by omega, by omega, by omega, fun r5 H5 g5 n5 e5 => ?_⟩
    refine ⟨_, _, _, _, rfl, rfl, g5 _ _ upd_same, e5, sz_le (by simp; omega), fun p6 hp6 => ?_⟩
    refine q _ _ (same_upd (g14.trans g5) hp6 _) ((g14.trans g5).free hp6) ?_
    rw [upd_same, hk]
    simp
theorem ok_keys (D : Df K mg "keys_of" sKeys ["shape"]) : ∀ n : Nat, Cal P w K mg base n "keys_of" ["shape"] (spKeys n)
  | 0 => D.none fun vs H Q E h => by
    obtain ⟨v, t, _, _, h1, _⟩ := h
    omega
  | n + 1 => ok_keys1 D (ok_keys D n)
end
end TT


/-! KW3 -/
namespace TT
open PySem PySem.Spec PyProof.Rows L2
section
variable {P : Program} {w : World} {K : PySem.W.Frag} {mg : Str → Option Value} {base : Heap}
theorem inV_int {k : Int} {ks : List Int} (h : k ∈ ks) : inV (.int k) (ks.map V.int) = true := by
  unfold inV
  rw [List.any_map, List.any_eq_true]
  exact ⟨k, h, by simp [eqV]⟩
theorem flat_ints : ∀ ks : List Int, (ks.map V.int).all flatV = true
  | [] => rfl
  | k :: ks => by simp [flatV]

/-! ### is_there -/
def spThere : Sp := fun vs H Q _ => ∃ (v : V) (t : T) (k : Int), vs = [v, .int k] ∧ Sh H v t ∧ Good t ∧ k ∈ t.keys ∧ 1 ≤ k ∧ k ≤ 6 ∧ t.keys.length ≤ 900 ∧ ∀ H', Same H H' → Q (.bl true) H'
theorem scThere : FnScope ["shape", "key"] ["shape", "key"] (defScope sThere) := ⟨rfl, rfl, rfl, by decide +kernel, rfl, by decide +kernel, by decide +kernel⟩
theorem ok_there (D : Df K mg "is_there" sThere ["shape", "key"]) (N : Cal P w K mg base 7 "is_number" ["value", "least", "most"] spNum) (R : Cal P w K mg base 7 "keys_of" ["shape"] (spKeys 7)) {u : Tok} (mM : mg "MOST" = some (.int 6 u)) : Cal P w K mg base 8 "is_there" ["shape", "key"] spThere := by
  obtain ⟨g, gd, GN, bN, kN, mN⟩ := N
  obtain ⟨r, rd, GR, bR, kR, mR⟩ := R
  refine D.cal fun f fd F => F.ok scThere (fun vs H Q E h => ?_) (fun cdv A outer s H vs Q E hr h => ?_)
  · obtain ⟨v, t, k, rfl, _⟩ := h
    rfl
  obtain ⟨v, t, k, rfl, hs, hg, hm, h1, h6, hl, q⟩ := h
  refine ⟨_, pss_one (ps_ret (pe_and (pe_call GN hr (by rfl) mN kN bN .nil pass0 (pa_cons (pv 1) (pa_cons pe_int (pa_cons (pe_glob (v := .int 6) (by rfl) mM ⟨_, rfl⟩) pa_nil))))
    (pe_one (pe_cmpR op_in_seq (pv 1) (pe_call GR hr (by rfl) mR kR bR .nil pass0 (pa_cons (pv 0) pa_nil)) (by rfl))))), ?_⟩
  have := hg.1
  refine ⟨_, rfl, k, 1, 6, rfl, true, ?_, iteT ?_⟩
  · rw [decide_eq_true h1, decide_eq_true h6]; rfl
  refine ⟨_, rfl, _, rfl, v, t, rfl, hs, by omega, by omega, hl, fun r H' g n e => ?_⟩
  refine ⟨r, _, rfl, .inl (SqL.of e), rfl, flat_ints _, ?_⟩
  rw [inV_int hm]
  exact q H' g

/-! ### left_up, right_up -/
def spLup : Sp := fun vs H Q _ => ∃ (v : V) (a b r : T) (j t : Int), vs = [v] ∧ Sh H v (.node (.node a j b) t r) ∧ ∀ z H', Same H H' → Sh H' z (.node a j (.node b t r)) → Q z H'
def spRup : Sp := fun vs H Q _ => ∃ (v : V) (l c d : T) (t i : Int), vs = [v] ∧ Sh H v (.node l t (.node c i d)) ∧ ∀ z H', Same H H' → Sh H' z (.node (.node l t c) i d) → Q z H'
theorem scLup : FnScope ["part", "left", "top", "right"] ["part"] (defScope sLup) := ⟨rfl, rfl, rfl, by decide +kernel, rfl, by decide +kernel, by decide +kernel⟩
theorem scRup : FnScope ["part", "left", "top", "right"] ["part"] (defScope sRup) := ⟨rfl, rfl, rfl, by decide +kernel, rfl, by decide +kernel, by decide +kernel⟩
theorem ok_lup (D : Df K mg "left_up" sLup ["part"]) : Cal P w K mg base 1 "left_up" ["part"] spLup := by
  refine D.cal fun f fd F => F.ok scLup (fun vs H Q E h => ?_) (fun cdv A outer s H vs Q E hr h => ?_)
  · obtain ⟨v, a, b, r, j, t, rfl, _⟩ := h
    rfl
  obtain ⟨v, a, b, r, j, t, rfl, hs, q⟩ := h
  obtain ⟨p, rfl⟩ := hs.ref
  obtain ⟨x, y, e, hx, hy⟩ := hs.nodet
  obtain ⟨px, rfl⟩ := hx.ref
  obtain ⟨xa, xb, ex, ha, hb⟩ := hx.nodet
  refine ⟨_, pss_cons (ps_asg (pv 0) (pg_tup (by rfl) (pgs_cons (pg_name (i := 1) scLup.nd rfl (.inl rfl)) (pgs_cons (pg_name (i := 2) scLup.nd rfl (.inl rfl)) (pgs_cons (pg_name (i := 3) scLup.nd rfl (.inl rfl)) pgs_nil)))))
    (pss_one (ps_ret (pe_tup (pa_cons (pe_ix ix_tup (pv 1) pe_int (fun _ _ => rfl)) (pa_cons (pe_ix ix_tup (pv 1) pe_int (fun _ _ => rfl)) (pa_cons (pe_tup (pa_cons (pe_ix ix_tup (pv 1) pe_int (fun _ _ => rfl)) (pa_cons (pv 2) (pa_cons (pv 3) pa_nil)))) pa_nil)))))), ?_⟩
  refine ⟨_, rfl, p, _, rfl, SqT.of e, rfl, _, _, rfl, _, _, rfl, _, _, rfl, rfl, ?_⟩
  refine ⟨_, rfl, px, _, _, _, rfl, rfl, SqT.of ex, atI_nat (j := 0) rfl, _, rfl, px, _, _, _, rfl, rfl, SqT.of ex, atI_nat (j := 1) rfl, _, rfl, px, _, _, _, rfl, rfl, SqT.of ex, atI_nat (j := 2) rfl, _, rfl, _, rfl, sz3, fun p1 h1 => ⟨sz3, fun p2 h2 => ?_⟩⟩
  have g1 := same_new h1 (.tup [xb, .int t, y])
  have g2 := same_new h2 (.tup [xa, .int j, .ref p1])
  exact q _ _ (g1.trans g2) (.node upd_same (ha.mono (tps_same (g1.trans g2))) (.node (g2 _ _ upd_same) (hb.mono (tps_same (g1.trans g2))) (hy.mono (tps_same (g1.trans g2)))))
theorem ok_rup (D : Df K mg "right_up" sRup ["part"]) : Cal P w K mg base 1 "right_up" ["part"] spRup := by
  refine D.cal fun f fd F => F.ok scRup (fun vs H Q E h => ?_) (fun cdv A outer s H vs Q E hr h => ?_)
  · obtain ⟨v, l, c, d, t, i, rfl, _⟩ := h
    rfl
  obtain ⟨v, l, c, d, t, i, rfl, hs, q⟩ := h
  obtain ⟨p, rfl⟩ := hs.ref
  obtain ⟨x, y, e, hx, hy⟩ := hs.nodet
  obtain ⟨py, rfl⟩ := hy.ref
  obtain ⟨yc, yd, ey, hc, hd⟩ := hy.nodet
  refine ⟨_, pss_cons (ps_asg (pv 0) (pg_tup (by rfl) (pgs_cons (pg_name (i := 1) scRup.nd rfl (.inl rfl)) (pgs_cons (pg_name (i := 2) scRup.nd rfl (.inl rfl)) (pgs_cons (pg_name (i := 3) scRup.nd rfl (.inl rfl)) pgs_nil)))))
    (pss_one (ps_ret (pe_tup (pa_cons (pe_tup (pa_cons (pv 1) (pa_cons (pv 2) (pa_cons (pe_ix ix_tup (pv 3) pe_int (fun _ _ => rfl)) pa_nil)))) (pa_cons (pe_ix ix_tup (pv 3) pe_int (fun _ _ => rfl)) (pa_cons (pe_ix ix_tup (pv 3) pe_int (fun _ _ => rfl)) pa_nil)))))), ?_⟩
  refine ⟨_, rfl, p, _, rfl, SqT.of e, rfl, _, _, rfl, _, _, rfl, _, _, rfl, rfl, ?_⟩
  refine ⟨_, rfl, _, rfl, _, rfl, py, _, _, _, rfl, rfl, SqT.of ey, atI_nat (j := 0) rfl, sz3, fun p1 h1 => ?_⟩
  have g1 := same_new h1 (.tup [x, .int t, yc])
  have ey1 := g1 _ _ ey
  refine ⟨_, rfl, py, _, _, _, rfl, rfl, SqT.of ey1, atI_nat (j := 1) rfl, _, rfl, py, _, _, _, rfl, rfl, SqT.of ey1, atI_nat (j := 2) rfl, sz3, fun p2 h2 => ?_⟩
  have g2 := same_new h2 (.tup [.ref p1, .int i, yd])
  exact q _ _ (g1.trans g2) (.node upd_same (.node (g2 _ _ upd_same) (hx.mono (tps_same (g1.trans g2))) (hc.mono (tps_same (g1.trans g2)))) (hd.mono (tps_same (g1.trans g2))))

/-! ### turned -/
def spTurned (n : Nat) : Sp := fun vs H Q _ => ∃ (v : V) (s : T) (k : Int), vs = [v, .int k] ∧ Sh H v s ∧ s.ht < n ∧ s.ht ≤ 7 ∧ s.Srt ∧ k ∈ s.keys ∧ k ≠ s.top ∧ ∀ z H', Same H H' → Sh H' z (s.turn k) → Q z H'
theorem scTurned : FnScope ["shape", "key", "left", "top", "right"] ["shape", "key"] (defScope sTurned) := ⟨rfl, rfl, rfl, by decide +kernel, rfl, by decide +kernel, by decide +kernel⟩
theorem ok_turned1 {n : Nat} (D : Df K mg "turned" sTurned ["shape", "key"]) (L : Cal P w K mg base (n + 1) "left_up" ["part"] spLup) (U : Cal P w K mg base (n + 1) "right_up" ["part"] spRup) (R : Cal P w K mg base (n + 1) "turned" ["shape", "key"] (spTurned n)) :
    Cal P w K mg base (n + 2) "turned" ["shape", "key"] (spTurned (n + 1)) := by
  obtain ⟨l, ld, GL, bL, kL, mL⟩ := L
  obtain ⟨u, ud, GU, bU, kU, mU⟩ := U
  obtain ⟨r, rd, GR, bR, kR, mR⟩ := R
  refine D.cal fun f fd F => F.ok scTurned (fun vs H Q E h => ?_) (fun cdv A outer s H vs Q E hr h => ?_)
  · obtain ⟨v, t, k, rfl, _⟩ := h
    rfl
  obtain ⟨v, t, k, rfl, hs, h1, h2, hsrt, hm, hn, q⟩ := h
  obtain ⟨p, rfl, hc⟩ := hs.cases
  rcases hc with ⟨rfl, _⟩ | ⟨x, t, y, l', r', rfl, e, hx, hy⟩
  · cases hm
  obtain ⟨s1, s2, b1, b2⟩ := T.srt_node.mp hsrt
  have hn : k ≠ t := hn
  have hh : (T.node l' t r').ht = max l'.ht r'.ht + 1 := rfl
  refine ⟨_, pss_cons (ps_asg (pv 0) (pg_tup (by rfl) (pgs_cons (pg_name (i := 2) scTurned.nd rfl (.inl rfl)) (pgs_cons (pg_name (i := 3) scTurned.nd rfl (.inl rfl)) (pgs_cons (pg_name (i := 4) scTurned.nd rfl (.inl rfl)) pgs_nil)))))
    (pss_cons (ps_if (pt_cmpR op_lt (pv 1) (pv 3) (nomark _))
      (pss_one (ps_ret (pe_ifExp (pt_cmpR op_eq (pe_ix ix_tup (pv 2) pe_int (fun _ _ => rfl)) (pv 1) (nomark _)) (pe_call GL hr (by rfl) mL kL bL .nil pass0 (pa_cons (pv 0) pa_nil))
        (pe_tup (pa_cons (pe_call GR hr (by rfl) mR kR bR .nil pass0 (pa_cons (pv 2) (pa_cons (pv 1) pa_nil))) (pa_cons (pv 3) (pa_cons (pv 4) pa_nil))))))) pss_nil)
    (pss_one (ps_ret (pe_ifExp (pt_cmpR op_eq (pe_ix ix_tup (pv 4) pe_int (fun _ _ => rfl)) (pv 1) (nomark _)) (pe_call GU hr (by rfl) mU kU bU .nil pass0 (pa_cons (pv 0) pa_nil))
        (pe_tup (pa_cons (pv 2) (pa_cons (pv 3) (pa_cons (pe_call GR hr (by rfl) mR kR bR .nil pass0 (pa_cons (pv 4) (pa_cons (pv 1) pa_nil))) pa_nil)))))))), ?_⟩
  refine ⟨_, rfl, p, _, rfl, SqT.of e, rfl, _, _, rfl, _, _, rfl, _, _, rfl, rfl, ?_⟩
  refine ⟨_, rfl, _, rfl, _, _, rfl, rfl, _, rfl, ?_⟩
  rcases T.mem_node.mp hm with m | m | m
  · have hk := b1 k m
    refine iteB (decide_eq_true hk) (iteT ?_)
    obtain ⟨px, rfl, hcx⟩ := hx.cases
    rcases hcx with ⟨rfl, _⟩ | ⟨xa, j, xb, a, b, rfl, ex, ha, hb⟩
    · cases m
    refine ⟨_, rfl, px, _, _, _, rfl, rfl, SqT.of ex, atI_nat (j := 1) rfl, _, rfl, rfl, _, rfl, ?_⟩
    by_cases ej : j = k
    · refine iteB (decide_eq_true (by rw [ej])) (iteT ?_)
      refine ⟨_, rfl, _, a, b, r', j, t, rfl, hs, fun z H' g hz => q z H' g ?_⟩
      rw [T.turn_l hk, if_pos ej]
      rw [ej] at hz
      rw [ej]
      exact hz
    · refine iteB (decide_eq_false (fun z => ej (V.int.inj z))) (iteF ?_)
      refine ⟨_, rfl, _, rfl, _, _, k, rfl, hx, by omega, by omega, s1, m, fun z => ej z.symm, fun z H' g hz => ?_⟩
      refine ⟨_, rfl, _, rfl, sz3, fun p1 hp1 => ?_⟩
      have g1 := same_new hp1 (.tup [z, .int t, y])
      refine q _ _ (g.trans g1) ?_
      rw [T.turn_l hk, if_neg ej]
      exact .node upd_same (hz.mono (tps_same g1)) (hy.mono (tps_same (g.trans g1)))
  · exact absurd m hn
  · have hk := b2 k m
    refine iteB (decide_eq_false (by omega)) (iteF ?_)
    obtain ⟨py, rfl, hcy⟩ := hy.cases
    rcases hcy with ⟨rfl, _⟩ | ⟨yc, i, yd, c, d, rfl, ey, hc, hd⟩
    · cases m
    refine ⟨_, rfl, py, _, _, _, rfl, rfl, SqT.of ey, atI_nat (j := 1) rfl, _, rfl, rfl, _, rfl, ?_⟩
    by_cases ej : i = k
    · refine iteB (decide_eq_true (by rw [ej])) (iteT ?_)
      refine ⟨_, rfl, _, l', c, d, t, i, rfl, hs, fun z H' g hz => q z H' g ?_⟩
      rw [T.turn_r (by omega), if_pos ej]
      exact hz
    · refine iteB (decide_eq_false (fun z => ej (V.int.inj z))) (iteF ?_)
      refine ⟨_, rfl, _, rfl, _, rfl, _, rfl, _, _, k, rfl, hy, by omega, by omega, s2, m, fun z => ej z.symm, fun z H' g hz => ?_⟩
      refine ⟨sz3, fun p1 hp1 => ?_⟩
      have g1 := same_new hp1 (.tup [x, .int t, z])
      refine q _ _ (g.trans g1) ?_
      rw [T.turn_r (by omega), if_neg ej]
      exact .node upd_same (hx.mono (tps_same (g.trans g1))) (hz.mono (tps_same g1))
theorem ok_turned (D : Df K mg "turned" sTurned ["shape", "key"]) (L : Cal P w K mg base 1 "left_up" ["part"] spLup) (U : Cal P w K mg base 1 "right_up" ["part"] spRup) : ∀ n : Nat, Cal P w K mg base (n + 1) "turned" ["shape", "key"] (spTurned n)
  | 0 => D.none fun vs H Q E h => by
    obtain ⟨v, t, k, _, _, h1, _⟩ := h
    omega
  | n + 1 => ok_turned1 D (L.mono (by omega)) (U.mono (by omega)) (ok_turned D L U n)

/-! ### rotated -/
def spRot : Sp := fun vs H Q _ => ∃ (v : V) (s : T) (k : Int), vs = [v, .int k] ∧ Sh H v s ∧ Good s ∧ s.Srt ∧ s.keys.length ≤ 900 ∧ 1 ≤ k ∧ k ≤ 6 ∧ k ∈ s.keys ∧ k ≠ s.top ∧ ∀ z H', Same H H' → Sh H' z (s.turn k) → Q z H'
theorem scRot : FnScope ["shape", "key"] ["shape", "key"] (defScope sRot) := ⟨rfl, rfl, rfl, by decide +kernel, rfl, by decide +kernel, by decide +kernel⟩
theorem ok_rot (D : Df K mg "rotated" sRot ["shape", "key"]) (N : Cal P w K mg base 9 "need_shape" ["value"] spNeed) (I : Cal P w K mg base 9 "is_there" ["shape", "key"] spThere) (R : Cal P w K mg base 9 "turned" ["shape", "key"] (spTurned 6)) :
    Cal P w K mg base 10 "rotated" ["shape", "key"] spRot := by
  obtain ⟨l, ld, GN, bN, kN, mN⟩ := N
  obtain ⟨u, ud, GI, bI, kI, mI⟩ := I
  obtain ⟨r, rd, GR, bR, kR, mR⟩ := R
  refine D.cal fun f fd F => F.ok scRot (fun vs H Q E h => ?_) (fun cdv A outer s H vs Q E hr h => ?_)
  · obtain ⟨v, t, k, rfl, _⟩ := h
    rfl
  obtain ⟨v, t, k, rfl, hs, hg, hsrt, hl, h1, h6, hm, hn, q⟩ := h
  obtain ⟨p, rfl, hc⟩ := hs.cases
  rcases hc with ⟨rfl, _⟩ | ⟨x, t, y, l', r', rfl, e, hx, hy⟩
  · cases hm
  refine ⟨_, pss_cons (ps_expr (pe_call GN hr (by rfl) mN kN bN .nil pass0 (pa_cons (pv 0) pa_nil)))
    (pss_cons (ps_if (PW.pt (pw_or (pt_not (pt_val (pe_call GI hr (by rfl) mI kI bI .nil pass0 (pa_cons (pv 0) (pa_cons (pv 1) pa_nil))))) (pw_or1 (pt_cmpR op_eq (pe_ix ix_tup (pv 0) pe_int (fun _ _ => rfl)) (pv 1) (nomark _))))) pss_never pss_nil)
    (pss_one (ps_ret (pe_call GR hr (by rfl) mR kR bR .nil pass0 (pa_cons (pv 0) (pa_cons (pv 1) pa_nil)))))), ?_⟩
  refine ⟨_, rfl, _, _, rfl, hs, hg, fun H1 g1 => ?_⟩
  refine ⟨_, rfl, _, rfl, _, _, k, rfl, hs.mono (tps_same g1), hg, hm, h1, h6, hl, fun H2 g2 => ⟨true, rfl, iteF ?_⟩⟩
  have g12 := g1.trans g2
  refine ⟨_, rfl, p, _, _, _, rfl, rfl, SqT.of (g12 _ _ e), atI_nat (j := 1) rfl, _, rfl, rfl, _, rfl, ?_⟩
  refine iteB (decide_eq_false (fun z => hn (V.int.inj z).symm)) (iteF ?_)
  have := hg.1
  exact ⟨_, rfl, _, rfl, _, _, k, rfl, hs.mono (tps_same g12), by omega, by omega, hsrt, hm, hn, fun z H3 g3 hz => q z H3 (g12.trans g3) hz⟩

/-! ### need_same -/
def spSame : Sp := fun vs H Q _ => ∃ (v u : V) (s t : T), vs = [v, u] ∧ Sh H v s ∧ Sh H u t ∧ Good s ∧ Good t ∧ s.keys = t.keys ∧ s.keys.length ≤ 900 ∧ ∀ H', Same H H' → Q .non H'
theorem scSame : FnScope ["one", "other"] ["one", "other"] (defScope sSame) := ⟨rfl, rfl, rfl, by decide +kernel, rfl, by decide +kernel, by decide +kernel⟩
theorem ok_same (D : Df K mg "need_same" sSame ["one", "other"]) (N : Cal P w K mg base 9 "need_shape" ["value"] spNeed) (R : Cal P w K mg base 9 "keys_of" ["shape"] (spKeys 7)) : Cal P w K mg base 10 "need_same" ["one", "other"] spSame := by
  obtain ⟨l, ld, GN, bN, kN, mN⟩ := N
  obtain ⟨r, rd, GR, bR, kR, mR⟩ := R
  refine D.cal fun f fd F => F.ok scSame (fun vs H Q E h => ?_) (fun cdv A outer s H vs Q E hr h => ?_)
  · obtain ⟨v, u, s, t, rfl, _⟩ := h
    rfl
  obtain ⟨v, u, s', t, rfl, hs, ht, gs, gt, ek, hl, q⟩ := h
  refine ⟨_, pss_cons (ps_expr (pe_call GN hr (by rfl) mN kN bN .nil pass0 (pa_cons (pv 0) pa_nil)))
    (pss_cons (ps_expr (pe_call GN hr (by rfl) mN kN bN .nil pass0 (pa_cons (pv 1) pa_nil)))
    (pss_one (ps_if (pt_cmpR (op_neI hr.units) (pe_call GR hr (by rfl) mR kR bR .nil pass0 (pa_cons (pv 0) pa_nil)) (pe_call GR hr (by rfl) mR kR bR .nil pass0 (pa_cons (pv 1) pa_nil)) (nomark _)) pss_never pss_nil))), ?_⟩
  have := gs.1
  have := gt.1
  refine ⟨_, rfl, _, _, rfl, hs, gs, fun H1 g1 => ?_⟩
  refine ⟨_, rfl, _, _, rfl, ht.mono (tps_same g1), gt, fun H2 g2 => ?_⟩
  have g12 := g1.trans g2
  refine ⟨_, rfl, _, _, rfl, hs.mono (tps_same g12), by omega, by omega, hl, fun r1 H3 g3 n3 e3 => ?_⟩
  have g13 := g12.trans g3
  refine ⟨_, rfl, _, _, rfl, ht.mono (tps_same g13), by omega, by omega, by rw [← ek]; exact hl, fun r2 H4 g4 n4 e4 => ?_⟩
  refine ⟨r1, r2, _, _, rfl, rfl, SqL.of (g4 _ _ e3), SqL.of e4, _, rfl, ?_⟩
  refine iteB (c := false) (by rw [decide_eq_true ek]; rfl) (iteF ?_)
  exact q _ (g13.trans g4)

/-! ### the law's turn -/
theorem scTurn : FnScope ["_law_shape_here", "_law_key", "_law_left", "_law_top", "_law_right"] ["_law_shape_here", "_law_key"] (defScope sTurn) := ⟨rfl, rfl, rfl, by decide +kernel, rfl, by decide +kernel, by decide +kernel⟩
theorem ok_turn1 {n : Nat} (D : Df K mg "_law_turn" sTurn ["_law_shape_here", "_law_key"]) (R : Cal P w K mg base n "_law_turn" ["_law_shape_here", "_law_key"] (spTurned n)) :
    Cal P w K mg base (n + 1) "_law_turn" ["_law_shape_here", "_law_key"] (spTurned (n + 1)) := by
  obtain ⟨r, rd, GR, bR, kR, mR⟩ := R
  refine D.cal fun f fd F => F.ok scTurn (fun vs H Q E h => ?_) (fun cdv A outer s H vs Q E hr h => ?_)
  · obtain ⟨v, t, k, rfl, _⟩ := h
    rfl
  obtain ⟨v, t, k, rfl, hs, h1, h2, hsrt, hm, hn, q⟩ := h
  obtain ⟨p, rfl, hc⟩ := hs.cases
  rcases hc with ⟨rfl, _⟩ | ⟨x, t, y, l', r', rfl, e, hx, hy⟩
  · cases hm
  obtain ⟨s1, s2, b1, b2⟩ := T.srt_node.mp hsrt
  have hn : k ≠ t := hn
  have hh : (T.node l' t r').ht = max l'.ht r'.ht + 1 := rfl
  refine ⟨_, pss_cons (ps_asg (pv 0) (pg_tup (by rfl) (pgs_cons (pg_name (i := 2) scTurn.nd rfl (.inl rfl)) (pgs_cons (pg_name (i := 3) scTurn.nd rfl (.inl rfl)) (pgs_cons (pg_name (i := 4) scTurn.nd rfl (.inl rfl)) pgs_nil)))))
    (pss_cons (ps_if (PW.pt (pw_and (pt_cmpR (op_neS hr.units) (pv 2) (pe_tup pa_nil) (nomark _)) (pw_and1 (pt_cmpR op_eq (pe_ix ix_tup (pv 2) pe_int (fun _ _ => rfl)) (pv 1) (nomark _)))))
      (pss_one (ps_ret (pe_tup (pa_cons (pe_ix ix_tup (pv 2) pe_int (fun _ _ => rfl)) (pa_cons (pv 1) (pa_cons (pe_tup (pa_cons (pe_ix ix_tup (pv 2) pe_int (fun _ _ => rfl)) (pa_cons (pv 3) (pa_cons (pv 4) pa_nil)))) pa_nil)))))) pss_nil)
    (pss_cons (ps_if (PW.pt (pw_and (pt_cmpR (op_neS hr.units) (pv 4) (pe_tup pa_nil) (nomark _)) (pw_and1 (pt_cmpR op_eq (pe_ix ix_tup (pv 4) pe_int (fun _ _ => rfl)) (pv 1) (nomark _)))))
      (pss_one (ps_ret (pe_tup (pa_cons (pe_tup (pa_cons (pv 2) (pa_cons (pv 3) (pa_cons (pe_ix ix_tup (pv 4) pe_int (fun _ _ => rfl)) pa_nil)))) (pa_cons (pv 1) (pa_cons (pe_ix ix_tup (pv 4) pe_int (fun _ _ => rfl)) pa_nil)))))) pss_nil)
    (pss_cons (ps_if (pt_cmpR op_lt (pv 1) (pv 3) (nomark _))
      (pss_one (ps_ret (pe_tup (pa_cons (pe_call GR hr (by rfl) mR kR bR .nil pass0 (pa_cons (pv 2) (pa_cons (pv 1) pa_nil))) (pa_cons (pv 3) (pa_cons (pv 4) pa_nil)))))) pss_nil)
    (pss_one (ps_ret (pe_tup (pa_cons (pv 2) (pa_cons (pv 3) (pa_cons (pe_call GR hr (by rfl) mR kR bR .nil pass0 (pa_cons (pv 4) (pa_cons (pv 1) pa_nil))) pa_nil))))))))), ?_⟩
  refine ⟨_, rfl, p, _, rfl, SqT.of e, rfl, _, _, rfl, _, _, rfl, _, _, rfl, rfl, ?_⟩
  refine ⟨_, rfl, sz0, fun p1 hp1 => ?_⟩
  have g1 := same_new hp1 (.tup [])
  refine ⟨l', .nil, hx.mono (tps_same g1), .nil upd_same, by omega, by decide, _, rfl, ?_⟩
  -- what follows the first test
  have second : ∀ H1, Same H H1 → (l' = .nil ∨ l'.top ≠ k) →
      (tSeq (tIfS (tAnd (tTest (tOp rNeS (tVar 4) (tTup tNil))) (tTest (tOp rEq (tOp (rIxT K) (tVar 4) (tC (.int 1))) (tVar 1)))) (tRet (tTup (tCons (tTup (tCons (tVar 2) (tCons (tVar 3) (tCons (tOp (rIxT K) (tVar 4) (tC (.int 0))) tNil)))) (tCons (tVar 1) (tCons (tOp (rIxT K) (tVar 4) (tC (.int 2))) tNil))))) tNext)
        (tSeq (tIfS (tTest (tOp (rI0 fun i j => .bl (decide (i < j))) (tVar 1) (tVar 3))) (tRet (tTup (tCons (tCall (spTurned n) [] E0 (tCons (tVar 2) (tCons (tVar 1) tNil))) (tCons (tVar 3) (tCons (tVar 4) tNil))))) tNext)
          (tRet (tTup (tCons (tVar 2) (tCons (tVar 3) (tCons (tCall (spTurned n) [] E0 (tCons (tVar 4) (tCons (tVar 1) tNil))) tNil)))))))
        { nx := fun _ H' => Q .non H', rt := Q } [some (.ref p), some (.int k), some x, some (.int t), some y] H1 := by
    intro H1 g hl
    refine ⟨_, rfl, sz0, fun p2 hp2 => ?_⟩
    have g2 := g.trans (same_new hp2 (.tup []))
    refine ⟨r', .nil, hy.mono (tps_same g2), .nil upd_same, by omega, by decide, _, rfl, ?_⟩
    have third : ∀ H1, Same H H1 → (r' = .nil ∨ r'.top ≠ k) →
      (tSeq (tIfS (tTest (tOp (rI0 fun i j => .bl (decide (i < j))) (tVar 1) (tVar 3))) (tRet (tTup (tCons (tCall (spTurned n) [] E0 (tCons (tVar 2) (tCons (tVar 1) tNil))) (tCons (tVar 3) (tCons (tVar 4) tNil))))) tNext)
          (tRet (tTup (tCons (tVar 2) (tCons (tVar 3) (tCons (tCall (spTurned n) [] E0 (tCons (tVar 4) (tCons (tVar 1) tNil))) tNil))))))
        { nx := fun _ H' => Q .non H', rt := Q } [some (.ref p), some (.int k), some x, some (.int t), some y] H1 := by
      intro H1 g hr'
      refine ⟨_, rfl, _, rfl, _, _, rfl, rfl, _, rfl, ?_⟩
      rcases T.mem_node.mp hm with m | m | m
      · have hk := b1 k m
        refine iteB (decide_eq_true hk) (iteT ?_)
        have hne : k ≠ l'.top := by
          rcases hl with z | z
          · rw [z] at m; cases m
          · exact fun e => z e.symm
        refine ⟨_, rfl, _, rfl, _, _, k, rfl, hx.mono (tps_same g), by omega, by omega, s1, m, hne, fun z H' g' hz => ?_⟩
        refine ⟨_, rfl, _, rfl, sz3, fun p3 hp3 => ?_⟩
        have g3 := same_new hp3 (.tup [z, .int t, y])
        refine q _ _ ((g.trans g').trans g3) ?_
        cases l' with
        | nil => cases m
        | node a j b =>
          rw [T.turn_l hk, if_neg (fun z => hne z.symm)]
          exact .node upd_same (hz.mono (tps_same g3)) (hy.mono (tps_same ((g.trans g').trans g3)))
      · exact absurd m hn
      · have hk := b2 k m
        refine iteB (decide_eq_false (by omega)) (iteF ?_)
        have hne : k ≠ r'.top := by
          rcases hr' with z | z
          · rw [z] at m; cases m
          · exact fun e => z e.symm
        refine ⟨_, rfl, _, rfl, _, rfl, _, rfl, _, _, k, rfl, hy.mono (tps_same g), by omega, by omega, s2, m, hne, fun z H' g' hz => ?_⟩
        refine ⟨sz3, fun p3 hp3 => ?_⟩
        have g3 := same_new hp3 (.tup [x, .int t, z])
        refine q _ _ ((g.trans g').trans g3) ?_
        cases r' with
        | nil => cases m
        | node c i d =>
          rw [T.turn_r (by omega), if_neg (fun z => hne z.symm)]
          exact .node upd_same (hx.mono (tps_same ((g.trans g').trans g3))) (hz.mono (tps_same g3))
    obtain ⟨py, rfl, hcy⟩ := hy.cases
    rcases hcy with ⟨rfl, _⟩ | ⟨yc, i, yd, c, d, rfl, ey, hc, hd⟩
    · exact iteB (c := false) (by simp) (iteF (iteF (third _ g2 (.inl rfl))))
    · refine iteB (c := true) (by simp) (iteT ?_)
      have ey2 := g2 _ _ ey
      refine ⟨_, rfl, py, _, _, _, rfl, rfl, SqT.of ey2, atI_nat (j := 1) rfl, _, rfl, rfl, _, rfl, ?_⟩
      by_cases ei : i = k
      · refine iteB (decide_eq_true (by rw [ei])) (iteT ?_)
        have hk : ¬ k < t := by
          have := b2 i (T.mem_node.mpr (.inr (.inl rfl)))
          omega
        refine ⟨_, rfl, _, rfl, _, rfl, py, _, _, _, rfl, rfl, SqT.of ey2, atI_nat (j := 0) rfl, sz3, fun p3 hp3 => ?_⟩
        have g3 := same_new hp3 (.tup [x, .int t, yc])
        refine ⟨_, rfl, _, rfl, py, _, _, _, rfl, rfl, SqT.of (g3 _ _ ey2), atI_nat (j := 2) rfl, sz3, fun p4 hp4 => ?_⟩
        have g4 := same_new hp4 (.tup [.ref p3, .int k, yd])
        have ga := (g2.trans g3).trans g4
        refine q _ _ ga ?_
        rw [T.turn_r hk, if_pos ei, ei]
        exact .node upd_same (.node (g4 _ _ upd_same) (hx.mono (tps_same ga)) (hc.mono (tps_same ga))) (hd.mono (tps_same ga))
      · exact iteB (decide_eq_false (fun z => ei (V.int.inj z))) (iteF (third _ g2 (.inr ei)))
  obtain ⟨px, rfl, hcx⟩ := hx.cases
  rcases hcx with ⟨rfl, _⟩ | ⟨xa, j, xb, a, b, rfl, ex, ha, hb⟩
  · exact iteB (c := false) (by simp) (iteF (iteF (second _ g1 (.inl rfl))))
  · refine iteB (c := true) (by simp) (iteT ?_)
    have ex1 := g1 _ _ ex
    refine ⟨_, rfl, px, _, _, _, rfl, rfl, SqT.of ex1, atI_nat (j := 1) rfl, _, rfl, rfl, _, rfl, ?_⟩
    by_cases ej : j = k
    · refine iteB (decide_eq_true (by rw [ej])) (iteT ?_)
      have hk : k < t := by
        have := b1 j (T.mem_node.mpr (.inr (.inl rfl)))
        omega
      refine ⟨_, rfl, px, _, _, _, rfl, rfl, SqT.of ex1, atI_nat (j := 0) rfl, _, rfl, _, rfl, px, _, _, _, rfl, rfl, SqT.of ex1, atI_nat (j := 2) rfl, _, rfl, _, rfl, sz3, fun p3 hp3 => ⟨sz3, fun p4 hp4 => ?_⟩⟩
      have g3 := same_new hp3 (.tup [xb, .int t, y])
      have g4 := same_new hp4 (.tup [xa, .int k, .ref p3])
      have ga := (g1.trans g3).trans g4
      refine q _ _ ga ?_
      rw [T.turn_l hk, if_pos ej, ej]
      exact .node upd_same (ha.mono (tps_same ga)) (.node (g4 _ _ upd_same) (hb.mono (tps_same ga)) (hy.mono (tps_same ga)))
    · exact iteB (decide_eq_false (fun z => ej (V.int.inj z))) (iteF (second _ g1 (.inr ej)))
theorem ok_turn (D : Df K mg "_law_turn" sTurn ["_law_shape_here", "_law_key"]) : ∀ n : Nat, Cal P w K mg base n "_law_turn" ["_law_shape_here", "_law_key"] (spTurned n)
  | 0 => D.none fun vs H Q E h => by
    obtain ⟨v, t, k, _, _, h1, _⟩ := h
    omega
  | n + 1 => ok_turn1 D (ok_turn D n)
end
end TT


/-! KW4 -/
namespace TT
open PySem PySem.Spec PyProof.Rows L2
section
variable {P : Program} {w : World} {K : PySem.W.Frag} {mg : Str → Option Value} {base : Heap}
/-! ### lists of pairs (key, shape) -/
inductive PrL (H : Hp) : List V → List (Int × T) → Prop
  | nil : PrL H [] []
  | cons {a : Addr} {x : V} {k : Int} {u : T} {vs : List V} {l : List (Int × T)} : H a = some (.tup [.int k, x]) → Sh H x u → PrL H vs l → PrL H (.ref a :: vs) ((k, u) :: l)
theorem PrL.mono {H H' : Hp} (e : Tps H H') {vs : List V} {l : List (Int × T)} (h : PrL H vs l) : PrL H' vs l := by
  induction h with
  | nil => exact .nil
  | cons h h2 _ ih => exact .cons (e _ _ h) (h2.mono e) ih
theorem PrL.snoc {H : Hp} {a : Addr} {x : V} {k : Int} {u : T} (h1 : H a = some (.tup [.int k, x])) (h2 : Sh H x u) : ∀ {vs : List V} {l : List (Int × T)}, PrL H vs l → PrL H (vs ++ [.ref a]) (l ++ [(k, u)])
  | _, _, .nil => .cons h1 h2 .nil
  | _, _, .cons a b r => .cons a b (PrL.snoc h1 h2 r)
theorem PrL.len {H : Hp} {vs : List V} {l : List (Int × T)} (h : PrL H vs l) : vs.length = l.length := by
  induction h with
  | nil => rfl
  | cons _ _ _ ih => simp [ih]
theorem PrL.get {H : Hp} : ∀ {vs : List V} {l : List (Int × T)} {i : Nat} {v : V}, PrL H vs l → vs[i]? = some v → ∃ a x k u, v = .ref a ∧ H a = some (.tup [.int k, x]) ∧ Sh H x u ∧ l[i]? = some (k, u)
  | _, _, _, _, .nil, e => by simp at e
  | _, _, 0, _, .cons h h2 _, e => by
    simp at e
    subst e
    exact ⟨_, _, _, _, rfl, h, h2, rfl⟩
  | _, _, i + 1, _, .cons _ _ r, e => by
    obtain ⟨a, x, k, u, h1, h2, h3, h4⟩ := PrL.get (i := i) r (by simpa using e)
    exact ⟨a, x, k, u, h1, h2, h3, by simpa using h4⟩
theorem same_mut {H H1 : Hp} {p : Addr} {o : HO} (e : Same H H1) (h : H p = none) : Same H (upd H1 p o) := fun a u ha => by
  rw [upd_ne (ne_of_none ha h)]
  exact e a u ha
theorem tps_lst {H : Hp} {p : Addr} {xs : List V} {o : HO} (h : H p = some (.lst xs)) : Tps H (upd H p o) := tps_upd fun ys z => by rw [h] at z; cases z
theorem take_snoc {α : Type} {l : List α} {i : Nat} {x : α} (h : l[i]? = some x) : l.take (i + 1) = l.take i ++ [x] := by
  rw [List.take_add_one, h]; rfl
theorem map_get {ks : List Int} {i : Nat} {x : V} (h : (ks.map V.int)[i]? = some x) : ∃ k, x = .int k ∧ ks[i]? = some k := by
  rw [List.getElem?_map] at h
  cases e : ks[i]? with
  | none => rw [e] at h; cases h
  | some k => rw [e] at h; exact ⟨k, (Option.some.inj h).symm, rfl⟩

/-- the keys at hand -/
structure Ks (ks : List Int) : Prop where
  srt : ks.Pairwise (· < ·)
  len : ks.length ≤ 5
  rng : ∀ k, k ∈ ks → 1 ≤ k ∧ k ≤ 6
theorem Ks.tsrt {ks : List Int} (h : Ks ks) {t : T} (e : t.keys = ks) : t.Srt := by unfold T.Srt; rw [e]; exact h.srt
theorem Ks.ht {ks : List Int} (h : Ks ks) {t : T} (e : t.keys = ks) : t.ht ≤ 5 := by have q := T.ht_le t; rw [e] at q; have := h.len; omega
theorem Ks.good {ks : List Int} (h : Ks ks) {t : T} (e : t.keys = ks) : Good t := ⟨h.ht e, bet_of t 1 6 (h.tsrt e) fun k hk => h.rng k (by rw [← e]; exact hk)⟩
theorem Ks.l900 {ks : List Int} (h : Ks ks) {t : T} (e : t.keys = ks) : t.keys.length ≤ 900 := by have := h.len; rw [e]; omega

/-! ### near -/
def nearP (s : T) (l : List Int) : List (Int × T) := (l.filter fun k => !decide (k = s.top)).map fun k => (k, s.turn k)
theorem nearP_snoc {s : T} {l : List Int} {k : Int} : nearP s (l ++ [k]) = if k = s.top then nearP s l else nearP s l ++ [(k, s.turn k)] := by
  unfold nearP
  rw [List.filter_append, List.map_append]
  by_cases h : k = s.top <;> simp [h]
theorem nearP_len (s : T) (l : List Int) : (nearP s l).length ≤ l.length := by
  unfold nearP
  rw [List.length_map]
  exact List.length_filter_le _ _
def spNear : Sp := fun vs H Q _ => ∃ (v : V) (s : T), vs = [v] ∧ Sh H v s ∧ s.ht ≤ 5 ∧ s.Srt ∧ s.keys.length ≤ 900 ∧ ∀ r ps H', Same H H' → H r = none → H' r = some (.lst ps) → PrL H' ps (near s) → Q (.ref r) H'
theorem scNear : FnScope ["shape", "key"] ["shape"] (defScope sNear) := ⟨rfl, rfl, rfl, by decide +kernel, rfl, by decide +kernel, by decide +kernel⟩
theorem ok_near (D : Df K mg "near" sNear ["shape"]) (R : Cal P w K mg base 7 "keys_of" ["shape"] (spKeys 7)) (U : Cal P w K mg base 7 "turned" ["shape", "key"] (spTurned 6)) : Cal P w K mg base 8 "near" ["shape"] spNear := by
  obtain ⟨r, rd, GR, bR, kR, mR⟩ := R
  obtain ⟨u, ud, GU, bU, kU, mU⟩ := U
  refine D.cal fun f fd F => F.ok scNear (fun vs H Q E h => ?_) (fun cdv A outer s H vs Q E hr h => ?_)
  · obtain ⟨v, t, rfl, _⟩ := h
    rfl
  obtain ⟨v, t, rfl, hs, hh, hsrt, hl, q⟩ := h
  refine ⟨_, pss_one (ps_ret (pe_lc (own := [("key", 1)]) (g := gName 1) (by rfl) scNear.nd (pi_list (pe_call GR hr (by rfl) mR kR bR .nil pass0 (pa_cons (pv 0) pa_nil)))
    (blkOk_by (own := [("key", 1)]) (N := ["shape", "key"]) (sc := defScope sNear) (by decide +kernel)) (fun _ _ _ _ _ => pg_name (i := 1) scNear.nd rfl (Or.inl rfl))
    (fun _ _ _ _ _ => pts_one (pt_cmpR op_ne (pv 1) (pe_ix (r := rIxT K) ix_tup (pv 0) pe_int (fun _ _ => rfl)) (nomark _)))
    (fun _ _ _ _ _ => pe_tup (pa_cons (pv 1) (pa_cons (pe_call GU hr (by rfl) mU kU bU .nil pass0 (pa_cons (pv 0) (pa_cons (pv 1) pa_nil))) pa_nil))))), ?_⟩
  refine ⟨_, rfl, v, t, rfl, hs, by omega, by omega, hl, fun r1 H1 g1 n1 e1 => ?_⟩
  refine ⟨r1, rfl, ⟨_, SqL.of e1⟩, fun Da hD => ?_⟩
  refine lc_list (xs := t.keys.map V.int) (fun i Hc => Same H1 Hc ∧ ∃ acc, Hc Da = some (.lst acc) ∧ PrL Hc acc (nearP t (t.keys.take i))) ?_ ?_ ?_ ?_
  · exact ⟨same_new hD _, [], upd_same, .nil⟩
  · intro i Hc _ hp
    exact SqL.of (hp.1 _ _ e1)
  · intro i x Hc hx hp
    obtain ⟨g, acc, ea, pa⟩ := hp
    obtain ⟨k, rfl, hk⟩ := map_get hx
    have hm : k ∈ t.keys := List.mem_of_getElem? hk
    have gH := g1.trans g
    have hs2 := hs.mono (tps_same gH)
    obtain ⟨p, rfl, hc⟩ := hs2.cases
    rcases hc with ⟨rfl, _⟩ | ⟨x, t0, y, l', r', rfl, e, hx2, hy2⟩
    · cases hm
    refine ⟨rfl, _, rfl, _, rfl, p, _, _, _, rfl, rfl, SqT.of e, atI_nat (j := 1) rfl, rfl, _, rfl, ?_⟩
    by_cases hkt : k = t0
    · refine iteB (c := false) (by rw [hkt]; simp) (iteF ?_)
      refine ⟨g, acc, ea, ?_⟩
      rw [take_snoc hk, nearP_snoc, if_pos (show k = (T.node l' t0 r').top from hkt)]
      exact pa
    · refine iteB (c := true) (by simp [hkt]) (iteT ?_)
      refine ⟨_, rfl, _, rfl, _, rfl, _, _, k, rfl, hs2, by omega, by omega, hsrt, hm, hkt, fun z H2 g2 hz => ?_⟩
      refine ⟨sz2, fun p3 hp3 => ?_⟩
      have g3 := same_new hp3 (.tup [.int k, z])
      have eD := g3 _ _ (g2 _ _ ea)
      have htp := tps_lst (o := .lst (acc ++ [.ref p3])) eD
      have hlen : acc.length ≤ 900 := by
        have h1 := pa.len
        have h2 := nearP_len (T.node l' t0 r') ((T.node l' t0 r').keys.take i)
        rw [List.length_take] at h2
        omega
      refine ⟨acc, eD, small1000 (by omega), same_mut (g.trans (g2.trans g3)) hD, _, upd_same, ?_⟩
      rw [take_snoc hk, nearP_snoc, if_neg (show ¬ k = (T.node l' t0 r').top from hkt)]
      exact PrL.snoc (htp _ _ upd_same) ((hz.mono (tps_same g3)).mono htp) (pa.mono ((tps_same (g2.trans g3)).trans htp))
  · intro Hc hp
    obtain ⟨g, acc, ea, pa⟩ := hp
    refine q Da acc Hc (g1.trans g) (g1.free hD) ea ?_
    rw [List.length_map, List.take_length] at pa
    exact pa

/-! ### ways_from -/
def cv (f : List (T × Nat)) : List (T × V) := f.map fun p => (p.1, V.int p.2)
theorem cv_keys (f : List (T × Nat)) : (cv f).map (·.1) = f.map (·.1) := by
  unfold cv
  rw [List.map_map]
  rfl
theorem cv_mem {f : List (T × Nat)} {t : T} {n : Nat} (h : (t, n) ∈ f) : (t, V.int n) ∈ cv f := List.mem_map.mpr ⟨(t, n), h, rfl⟩
theorem cv_snoc (f : List (T × Nat)) (t : T) (n : Nat) : cv f ++ [(t, V.int ((n : Int) + 1))] = cv (f ++ [(t, n + 1)]) := by
  unfold cv
  rw [List.map_append]
  rfl
theorem cv_len (f : List (T × Nat)) : (cv f).length = f.length := by unfold cv; rw [List.length_map]
def spWays (P : Program) (w : World) : Sp := fun vs H Q _ => ∃ (v : V) (s : T) (ks : List Int), vs = [v] ∧ Sh H v s ∧ Ks ks ∧ s.keys = ks ∧ ∀ r f H', Same H H' → H r = none → DN P w H' r (cv f) → Ways (nb ks) s f → Q (.ref r) H'
theorem scWays : FnScope ["shape", "found", "level", "later", "here", "key", "new"] ["shape"] (defScope sWays) := ⟨rfl, rfl, rfl, by decide +kernel, rfl, by decide +kernel, by decide +kernel⟩
theorem ok_ways (D : Df K mg "ways_from" sWays ["shape"]) (R : Cal P w K mg base 8 "near" ["shape"] spNear) : Cal P w K mg base 9 "ways_from" ["shape"] (spWays P w) := by
  obtain ⟨r, rd, GR, bR, kR, mR⟩ := R
  refine D.cal fun f fd F => F.ok scWays (fun vs H Q E h => ?_) (fun cdv A outer s H vs Q E hr h => ?_)
  · obtain ⟨v, t, ks, rfl, _⟩ := h
    rfl
  obtain ⟨v, t, ks, rfl, hs, hK, hk, q⟩ := h
  have all := reach_all hK.srt hK.len hk
  have all42 := allT_len hK.len
  have keysOf : ∀ {n : Nat} {u : T}, Dst (nb ks) t u n → u.keys = ks := fun d => by
    obtain ⟨⟨r, p, _⟩, _⟩ := d
    exact path_keys hK.srt p hk
  refine ⟨_, pss_cons (ps_par (i := 1) (j := 2) (by rfl) scWays.nd rfl rfl (by decide) rfl rfl (pa_cons (pe_ndisp hr.units (pv 0) pe_int) (pa_cons (pe_lst (pa_cons (pv 0) pa_nil)) pa_nil)) (by rfl))
    (pss_cons (ps_while PassesOwn.never (pt_cmpR (op_neL hr.units) (pv 2) (pe_lst pa_nil) (nomark _))
      (pss_cons (ps_set (i := 3) scWays.nd rfl (.inl rfl) (pe_lst pa_nil))
      (pss_cons (ps_for PassesOwn.never rfl (pi_list (pv 2)) (pg_name (i := 4) scWays.nd rfl (.inl rfl))
        (pss_one (ps_for PassesOwn.never rfl (pi_list (pe_call GR hr (by rfl) mR kR bR .nil pass0 (pa_cons (pv 4) pa_nil))) (pg_tup (by rfl) (pgs_cons (pg_name (i := 5) scWays.nd rfl (.inl rfl)) (pgs_cons (pg_name (i := 6) scWays.nd rfl (.inl rfl)) pgs_nil)))
          (pss_one (ps_if (pt_cmpR (op_nnotin hr.units) (pv 6) (pv 1) (by rfl))
            (pss_cons (ps_asg (pe_op op_add (pe_nget hr.units (pv 1) (pv 4) (fun _ _ => rfl)) pe_int) (pg_sub (pv 1) (pv 6) (set_nd hr.units)))
              (pss_one (ps_expr (pe_bm PySem.F.plainAttrs_list PySem.F.slot_list_append PySem.F.type_list_append mt_append (pv 3) (pa_cons (pv 6) pa_nil))))) pss_nil)))))
      (pss_one (ps_set (i := 2) scWays.nd rfl (.inl rfl) (pv 3))))))
    (pss_one (ps_ret (pv 1)))), ?_⟩
  -- found, level = {shape: 0}, [shape]
  refine fun fa ob hfa d0 => ⟨_, rfl, t, ?_, by have := hK.ht hk; omega, d0, fun ob' d1 => ?_⟩
  · exact hs.mono (tps_same (same_new hfa ob))
  have e0 : upd (upd H fa ob) fa ob' = upd H fa ob' := upd_upd
  rw [e0] at d1 ⊢
  have gf := same_new hfa ob'
  refine ⟨_, rfl, sz1, fun lv hlv => ⟨_, _, rfl, ?_⟩⟩
  have gl := same_new hlv (.lst [v])
  -- the while
  refine ⟨fun m σ Hc => ∃ (lv : Addr) (found : List (T × Nat)) (level : List T) (vs : List V) (o3 o4 o5 o6 : Option V) (n : Nat), σ = [some v, some (.ref fa), some (.ref lv), o3, o4, o5, o6] ∧ Same H Hc ∧ DN P w Hc fa (cv found) ∧
      Hc lv = some (.lst vs) ∧ ShL Hc vs level ∧ Lvl (nb ks) t n found level ∧ m = 2 * (42 - found.length) + (if level = [] then 0 else 1), ⟨_, lv, [(t, 0)], [t], [v], none, none, none, none, 0, rfl, gf.trans gl, ?_, upd_same, ?_, Lvl.start t, rfl⟩, ?_⟩
  · exact d1.same gl
  · exact .cons (hs.mono (tps_same (gf.trans gl))) .nil
  rintro m σ H1 ⟨lv, found, level, vs, o3, o4, o5, o6, n, rfl, g1, dn, elv, hsl, L, hm⟩
  refine ⟨_, rfl, sz0, fun p1 hp1 => ?_⟩
  have gp := same_new hp1 (.lst [])
  have hlk : ∀ u, u ∈ level → u.keys = ks := fun u hu => keysOf ((L.lev u).mp hu)
  refine ⟨lv, p1, vs, level, rfl, rfl, SqL.of (gp _ _ elv), hsl.mono (tps_same gp), fun u hu => (by have := hK.ht (hlk u hu); omega), SqL.of upd_same, _, rfl, ?_⟩
  by_cases hne : level = []
  · refine iteB (c := false) (by simp [hne]) (iteF ?_)
    subst hne
    refine ⟨_, rfl, q fa found _ (g1.trans gp) hfa (dn.same gp) L.ways⟩
  refine iteB (c := true) (by simp [hne]) (iteT ?_)
  refine ⟨fun σ' H' => ∃ m', m' < m ∧ ∃ (lv : Addr) (found : List (T × Nat)) (level : List T) (vs : List V) (o3 o4 o5 o6 : Option V) (n : Nat), σ' = [some v, some (.ref fa), some (.ref lv), o3, o4, o5, o6] ∧ Same H H' ∧ DN P w H' fa (cv found) ∧
      H' lv = some (.lst vs) ∧ ShL H' vs level ∧ Lvl (nb ks) t n found level ∧ m' = 2 * (42 - found.length) + (if level = [] then 0 else 1), fun _ _ z => z, ?_⟩
  -- later = []
  refine ⟨sz0, fun la hla => ?_⟩
  have ga := same_new hla (.lst [])
  have g2 : Same H1 (upd (upd H1 p1 (.lst [])) la (.lst [])) := gp.trans ga
  have hla1 : H1 la = none := gp.free hla
  have hlaH : H la = none := g1.free hla1
  have nlv : lv ≠ la := ne_of_none elv hla1
  have nfa : fa ≠ la := by
    obtain ⟨φ, e⟩ := dn.there
    exact ne_of_none e hla1
  have nfl : fa ≠ lv := by
    obtain ⟨φ, e⟩ := dn.there
    exact ne_of e elv (fun z => by cases z)
  refine ⟨_, rfl, lv, rfl, ⟨_, SqL.of (g2 _ _ elv)⟩, for_list (xs := vs) (fun i σ Hc => ∃ (found' : List (T × Nat)) (later : List T) (ws : List V) (o4 o5 o6 : Option V), σ = [some v, some (.ref fa), some (.ref lv), some (.ref la), o4, o5, o6] ∧ Same H Hc ∧ Tps H1 Hc ∧
      DN P w Hc fa (cv found') ∧ Hc lv = some (.lst vs) ∧ Hc la = some (.lst ws) ∧ ShL Hc ws later ∧ Inn (nb ks) t n found ((level.take i).flatMap fun u => (nb ks u).map (·.2)) found' later) ?_ ?_ ?_ ?_⟩
  · exact ⟨found, [], [], o4, o5, o6, rfl, g1.trans g2, tps_same g2, dn.same g2, g2 _ _ elv, upd_same, .nil, L.inn⟩
  · rintro i σ Hc _ ⟨_, _, _, _, _, _, _, _, _, _, e, _⟩
    exact SqL.of e
  · -- a turn of the outer loop
    rintro i x σ H2 hx ⟨found', later, ws, o4, o5, o6, rfl, g3, t3, dn3, elv3, ela3, hsl3, J⟩
    obtain ⟨u, hu, hxu⟩ := hsl.get hx
    have hxu3 := hxu.mono t3
    have hul : u ∈ level := List.mem_of_getElem? hu
    have huk := hlk u hul
    refine ⟨_, rfl, _, u, rfl, hxu3, hK.ht huk, hK.tsrt huk, hK.l900 huk, fun nl ps H3 g4 nnl enl hps => ?_⟩
    have nnla : nl ≠ la := fun z => by rw [z, ela3] at nnl; cases nnl
    have nnfa : nl ≠ fa := fun z => by
      obtain ⟨φ, e⟩ := dn3.there
      rw [z, e] at nnl; cases nnl
    refine ⟨nl, rfl, ⟨_, SqL.of enl⟩, for_list (xs := ps) (fun j σ Hc => ∃ (found' : List (T × Nat)) (later : List T) (ws : List V) (o5 o6 : Option V), σ = [some v, some (.ref fa), some (.ref lv), some (.ref la), some x, o5, o6] ∧ Same H Hc ∧ Tps H3 Hc ∧
      DN P w Hc fa (cv found') ∧ Hc lv = some (.lst vs) ∧ Hc la = some (.lst ws) ∧ ShL Hc ws later ∧ Hc nl = some (.lst ps) ∧ Inn (nb ks) t n found (((level.take i).flatMap fun u => (nb ks u).map (·.2)) ++ ((nb ks u).take j).map (·.2)) found' later) ?_ ?_ ?_ ?_⟩
    · refine ⟨found', later, ws, o5, o6, rfl, g3.trans g4, Tps.refl _, dn3.same g4, g4 _ _ elv3, g4 _ _ ela3, hsl3.mono (tps_same g4), enl, ?_⟩
      simpa using J
    · rintro j σ Hc _ ⟨_, _, _, _, _, _, _, _, _, _, _, _, e, _⟩
      exact SqL.of e
    · -- a turn of the inner loop
      rintro j y σ H4 hy ⟨found4, later4, ws4, o5, o6, rfl, g5, t5, dn5, elv5, ela5, hsl5, enl5, J5⟩
      obtain ⟨pa, z, k, c, rfl, epa, hz, hkc⟩ := hps.get hy
      have epa5 := t5 _ _ epa
      have hz5 := hz.mono t5
      have hkc' : (nb ks u)[j]? = some (k, c) := by rw [nb_eq huk]; exact hkc
      have hmem : (k, c) ∈ nb ks u := List.mem_of_getElem? hkc'
      have hck := nb_keys hK.srt hmem
      have hcht := hK.ht hck
      have hvis : ((nb ks u).take (j + 1)).map (·.2) = ((nb ks u).take j).map (·.2) ++ [c] := by rw [take_snoc hkc', List.map_append]; rfl
      refine ⟨pa, _, rfl, SqT.of epa5, rfl, _, _, rfl, _, _, rfl, rfl, ?_⟩
      refine ⟨_, rfl, _, rfl, c, fa, _, hz5, by omega, rfl, dn5, _, rfl, ?_⟩
      rw [cv_keys]
      by_cases hin : c ∈ found4.map (·.1)
      · refine iteB (c := false) (by simp [hin]) (iteF ?_)
        refine ⟨found4, later4, ws4, _, _, rfl, g5, t5, dn5, elv5, ela5, hsl5, enl5, ?_⟩
        rw [hvis, ← List.append_assoc]
        exact J5.skip L hin
      · refine iteB (c := true) (by simp [hin]) (iteT ?_)
        have J6 := J5.push L hul hmem hin
        have sz6 := J6.size L all
        have sz5 := J5.size L all
        have hxu5 : Sh H4 x u := (hxu3.mono (tps_same g4)).mono t5
        refine ⟨_, rfl, _, rfl, fa, _, u, _, rfl, dn5, hxu5, (by have := hK.ht huk; omega), cv_mem (J5.old_of L hul), _, _, rfl, rfl, ?_⟩
        refine ⟨_, rfl, _, rfl, fa, _, c, rfl, dn5, hz5, by omega, by rw [cv_keys]; exact hin, by rw [cv_len]; exact small1000 (by omega), fun ob6 dn6 => ?_⟩
        have tp6 := tps_upd (o := ob6) dn5.ntup
        have ela6 : upd H4 fa ob6 la = some (.lst ws4) := by rw [upd_ne nfa.symm]; exact ela5
        have elv6 : upd H4 fa ob6 lv = some (.lst vs) := by rw [upd_ne nfl.symm]; exact elv5
        have enl6 : upd H4 fa ob6 nl = some (.lst ps) := by rw [upd_ne nnfa]; exact enl5
        have g6 := same_mut (o := ob6) g5 hfa
        refine ⟨_, rfl, .inl ⟨rfl, _, SqL.of ela6⟩, _, rfl, la, _, _, rfl, rfl, ela6, by rw [hsl5.len]; exact small1000 (by omega), ?_⟩
        have tp7 := tps_lst (o := .lst (ws4 ++ [z])) ela6
        refine ⟨found4 ++ [(c, n + 1)], later4 ++ [c], ws4 ++ [z], _, _, rfl, same_mut g6 hlaH, (t5.trans tp6).trans tp7, ?_, ?_, upd_same, ?_, ?_, ?_⟩
        · rw [← cv_snoc]
          exact dn6.keep (fun o e => by rw [upd_ne nfa]; exact e) tp7
        · rw [upd_ne nlv]; exact elv6
        · exact ShL.snoc ((hz5.mono tp6).mono tp7) (hsl5.mono (tp6.trans tp7))
        · rw [upd_ne nnla]; exact enl6
        · rw [hvis, ← List.append_assoc]
          exact J6
    · -- behind the inner loop
      rintro σ Hc ⟨found4, later4, ws4, o5, o6, rfl, g5, t5, dn5, elv5, ela5, hsl5, enl5, J5⟩
      refine ⟨found4, later4, ws4, _, o5, o6, rfl, g5, (t3.trans (tps_same g4)).trans t5, dn5, elv5, ela5, hsl5, ?_⟩
      have e1 : ps.length = (nb ks u).length := by rw [hps.len, nb_eq huk]
      rw [e1, List.take_length] at J5
      rw [take_snoc hu, List.flatMap_append]
      simpa using J5
  · -- behind the outer loop
    rintro σ Hc ⟨found', later, ws, o4, o5, o6, rfl, g3, t3, dn3, elv3, ela3, hsl3, J⟩
    rw [hsl.len, List.take_length] at J
    have sz := J.size L all
    refine ⟨_, rfl, _, ?_, la, found', later, ws, _, o4, o5, o6, n + 1, rfl, g3, dn3, ela3, hsl3, J.done L, rfl⟩
    rw [hm, if_neg hne]
    by_cases hl0 : later = []
    · rw [if_pos hl0]
      rw [hl0] at sz
      simp at sz
      omega
    · rw [if_neg hl0]
      have : 0 < later.length := List.length_pos_iff.mpr hl0
      omega
end
end TT


/-! KW5 -/
namespace TT
open PySem PySem.Spec PyProof.Rows L2
section
variable {P : Program} {w : World} {K : PySem.W.Frag} {mg : Str → Option Value} {base : Heap}
/-! ### distance -/
def spDist : Sp := fun vs H Q _ => ∃ (v u : V) (s t : T) (ks : List Int), vs = [v, u] ∧ Sh H v s ∧ Sh H u t ∧ Ks ks ∧ s.keys = ks ∧ t.keys = ks ∧ ∀ (n : Nat) H', Same H H' → Dst (nb ks) s t n → Q (.int n) H'
theorem scDist : FnScope ["one", "other"] ["one", "other"] (defScope sDist) := ⟨rfl, rfl, rfl, by decide +kernel, rfl, by decide +kernel, by decide +kernel⟩
theorem ok_dist (D : Df K mg "distance" sDist ["one", "other"]) (N : Cal P w K mg base 10 "need_same" ["one", "other"] spSame) (R : Cal P w K mg base 10 "ways_from" ["shape"] (spWays P w)) : Cal P w K mg base 11 "distance" ["one", "other"] spDist := by
  obtain ⟨l, ld, GN, bN, kN, mN⟩ := N
  obtain ⟨r, rd, GR, bR, kR, mR⟩ := R
  refine D.cal fun f fd F => F.ok scDist (fun vs H Q E h => ?_) (fun cdv A outer s H vs Q E hr h => ?_)
  · obtain ⟨v, u, t, t2, ks, rfl, _⟩ := h
    rfl
  obtain ⟨v, u, s', t, ks, rfl, hs, ht, hK, e1, e2, q⟩ := h
  refine ⟨_, pss_cons (ps_expr (pe_call GN hr (by rfl) mN kN bN .nil pass0 (pa_cons (pv 0) (pa_cons (pv 1) pa_nil))))
    (pss_one (ps_ret (pe_nget hr.units (pe_call GR hr (by rfl) mR kR bR .nil pass0 (pa_cons (pv 0) pa_nil)) (pv 1) (fun _ _ => rfl)))), ?_⟩
  refine ⟨_, rfl, _, rfl, v, u, s', t, rfl, hs, ht, hK.good e1, hK.good e2, e1.trans e2.symm, hK.l900 e1, fun H1 g1 => ?_⟩
  refine ⟨_, rfl, v, s', ks, rfl, hs.mono (tps_same g1), hK, e1, fun r f H2 g2 nr dn W => ?_⟩
  obtain ⟨n, d⟩ := dst_ex hK.srt e1 e2
  have := hK.ht e2
  exact ⟨_, rfl, r, _, t, .int n, rfl, dn, ht.mono (tps_same (g1.trans g2)), by omega, cv_mem ((W.1 t n).mpr d), q n H2 (g1.trans g2) d⟩

/-! ### first_turns -/
def spFirst : Sp := fun vs H Q _ => ∃ (v u : V) (s t : T) (ks : List Int), vs = [v, u] ∧ Sh H v s ∧ Sh H u t ∧ Ks ks ∧ s.keys = ks ∧ t.keys = ks ∧
  ∀ r (row : List Int) H', Same H H' → H r = none → H' r = some (.lst (row.map V.int)) → Greedy (nb ks) s t row → Q (.ref r) H'
theorem scFirst : FnScope ["one", "other", "far", "found", "good", "key", "new"] ["one", "other"] (defScope sFirst) := ⟨rfl, rfl, rfl, by decide +kernel, rfl, by decide +kernel, by decide +kernel⟩
theorem filter_snoc {α : Type} (p : α → Bool) (l : List α) (x : α) : (l ++ [x]).filter p = if p x = true then l.filter p ++ [x] else l.filter p := by
  rw [List.filter_append, List.filter_cons]
  split <;> simp
theorem ok_first (D : Df K mg "first_turns" sFirst ["one", "other"]) (N : Cal P w K mg base 10 "need_same" ["one", "other"] spSame) (R : Cal P w K mg base 10 "ways_from" ["shape"] (spWays P w)) (U : Cal P w K mg base 10 "near" ["shape"] spNear) :
    Cal P w K mg base 11 "first_turns" ["one", "other"] spFirst := by
  obtain ⟨l, ld, GN, bN, kN, mN⟩ := N
  obtain ⟨r, rd, GR, bR, kR, mR⟩ := R
  obtain ⟨u0, ud, GU, bU, kU, mU⟩ := U
  refine D.cal fun f fd F => F.ok scFirst (fun vs H Q E h => ?_) (fun cdv A outer s H vs Q E hr h => ?_)
  · obtain ⟨v, u, t, t2, ks, rfl, _⟩ := h
    rfl
  obtain ⟨v, u, s', t, ks, rfl, hs, ht, hK, e1, e2, q⟩ := h
  have all := reach_all hK.srt hK.len e1
  have all42 := allT_len hK.len
  refine ⟨_, pss_cons (ps_expr (pe_call GN hr (by rfl) mN kN bN .nil pass0 (pa_cons (pv 0) (pa_cons (pv 1) pa_nil))))
    (pss_cons (ps_asg (pe_tup (pa_cons (pe_call GR hr (by rfl) mR kR bR .nil pass0 (pa_cons (pv 1) pa_nil)) (pa_cons (pe_lst pa_nil) pa_nil)))
      (pg_tup (by rfl) (pgs_cons (pg_name (i := 2) scFirst.nd rfl (.inr rfl)) (pgs_cons (pg_name (i := 3) scFirst.nd rfl (.inl rfl)) pgs_nil))))
    (pss_cons (ps_while PassesOwn.never (pt_cmpR (op_neS hr.units) (pv 0) (pv 1) (nomark _))
      (pss_cons (ps_setLc (i := 4) (own := [("key", 5), ("new", 6)]) (g := gTup K 2 (gCons (gName 5) (gCons (gName 6) gNil))) (by rfl) scFirst.nd rfl rfl (sw_true rfl rfl rfl (by decide +kernel))
        (pi_list (pe_call GU hr (by rfl) mU kU bU .nil pass0 (pa_cons (pv 0) pa_nil)))
        (blkOk_by (own := [("key", 5), ("new", 6)]) (N := ["one", "other", "far", "found", "good", "key", "new"]) (sc := defScope sFirst) (by decide +kernel))
        (fun _ _ _ _ _ => pg_tup (by rfl) (pgs_cons (pg_name (i := 5) scFirst.nd rfl (.inl rfl)) (pgs_cons (pg_name (i := 6) scFirst.nd rfl (.inl rfl)) pgs_nil)))
        (tt := tTest (tOp (rI0 fun i j => .bl (decide (i < j))) (tOp (rNGet P w) (tVar 2) (tVar 6)) (tOp (rNGet P w) (tVar 2) (tVar 0))))
        (fun _ _ _ _ _ => pts_one (pt_cmpR op_lt (pe_nget hr.units (pv 2) (pv 6) (fun _ _ => rfl)) (pe_nget hr.units (pv 2) (pv 0) (fun _ _ => rfl)) (nomark _)))
        (fun _ _ _ _ _ => pe_tup (pa_cons (pv 5) (pa_cons (pv 6) pa_nil))))
      (pss_cons (ps_expr (pe_bm PySem.F.plainAttrs_list PySem.F.slot_list_append PySem.F.type_list_append mt_append (pv 3) (pa_cons (pe_ix ix_tup (pe_ix ix_list (pv 4) pe_int (fun _ _ => rfl)) pe_int (fun _ _ => rfl)) pa_nil)))
      (pss_one (ps_set (i := 0) scFirst.nd rfl (.inr rfl) (pe_ix ix_tup (pe_ix ix_list (pv 4) pe_int (fun _ _ => rfl)) pe_int (fun _ _ => rfl)))))))
    (pss_one (ps_ret (pv 3))))), ?_⟩
  refine ⟨_, rfl, _, rfl, v, u, s', t, rfl, hs, ht, hK.good e1, hK.good e2, e1.trans e2.symm, hK.l900 e1, fun H1 g1 => ?_⟩
  refine ⟨_, rfl, u, t, ks, rfl, ht.mono (tps_same g1), hK, e2, fun fa far H2 g2 nfa dn W => ?_⟩
  refine ⟨sz0, fun fo hfo => ⟨sz2, fun pt hpt => ?_⟩⟩
  have g3 := same_new hfo (.lst [])
  have g4 := same_new hpt (.tup [.ref fa, .ref fo])
  have ga := ((g1.trans g2).trans g3).trans g4
  have hfoH : H fo = none := (g1.trans g2).free hfo
  have nff : fa ≠ fo := by
    obtain ⟨φ, e⟩ := dn.there
    exact ne_of_none e hfo
  refine ⟨pt, _, rfl, SqT.of upd_same, rfl, _, _, rfl, _, _, rfl, rfl, ?_⟩
  have dfar : ∀ {c : T}, c.keys = ks → (c, dv far c) ∈ far ∧ Dst (nb ks) c t (dv far c) := fun e => far_in e hK.srt e2 W
  refine ⟨fun m σ Hc => ∃ (x : V) (c : T) (row : List Int) (o4 o5 o6 : Option V), σ = [some x, some u, some (.ref fa), some (.ref fo), o4, o5, o6] ∧ Same H Hc ∧ Sh Hc x c ∧ c.keys = ks ∧ DN P w Hc fa (cv far) ∧ Hc fo = some (.lst (row.map V.int)) ∧
      (∀ r, Greedy (nb ks) c t r → Greedy (nb ks) s' t (row ++ r)) ∧ m = dv far c, ⟨_, v, s', [], none, none, none, rfl, ga, hs.mono (tps_same ga), e1, dn.same (g3.trans g4), g4 _ _ upd_same, fun r g => g, rfl⟩, ?_⟩
  rintro m σ H3 ⟨x, c, row, o4, o5, o6, rfl, g5, hx, ek, dn3, efo, hrow, hm⟩
  have hcht := hK.ht ek
  have htht := hK.ht e2
  have ht3 := ht.mono (tps_same g5)
  refine ⟨_, rfl, _, rfl, c, t, hx, ht3, by omega, by omega, _, rfl, ?_⟩
  by_cases hct : c = t
  · refine iteB (c := false) (by simp [hct]) (iteF ?_)
    refine ⟨_, rfl, q fo row _ g5 hfoH efo ?_⟩
    have z := hrow [] (by rw [hct]; exact .nil t)
    simpa using z
  refine iteB (c := true) (by simp [hct]) (iteT ?_)
  obtain ⟨k, c2, rest, hgood, ek2, hlt, hgr⟩ := good_first hct hK.srt ek e2 W
  -- how long the row is
  have hrl : row.length ≤ 42 := by
    obtain ⟨r0, gr0⟩ := Greedy.ex _ c (dfar ek).2
    have z := (hrow r0 gr0).dst.small all
    rw [List.length_append] at z
    omega
  refine ⟨fun σ' H' => ∃ m', m' < m ∧ ∃ (x : V) (c : T) (row : List Int) (o4 o5 o6 : Option V), σ' = [some x, some u, some (.ref fa), some (.ref fo), o4, o5, o6] ∧ Same H H' ∧ Sh H' x c ∧ c.keys = ks ∧ DN P w H' fa (cv far) ∧ H' fo = some (.lst (row.map V.int)) ∧
      (∀ r, Greedy (nb ks) c t r → Greedy (nb ks) s' t (row ++ r)) ∧ m' = dv far c, fun _ _ z => z, ?_⟩
  refine ⟨_, rfl, x, c, rfl, hx, hcht, hK.tsrt ek, hK.l900 ek, fun nl ps H4 g6 nnl enl hps => ?_⟩
  have dn4 := dn3.same g6
  have hx4 := hx.mono (tps_same g6)
  refine ⟨nl, rfl, ⟨_, SqL.of enl⟩, fun Da hD => ?_⟩
  refine lc_list (xs := ps) (fun i Hc => Same H4 Hc ∧ ∃ acc, Hc Da = some (.lst acc) ∧ PrL Hc acc (((near c).take i).filter fun p => decide (dv far p.2 < dv far c))) ?_ ?_ ?_ ?_
  · exact ⟨same_new hD _, [], upd_same, .nil⟩
  · intro i Hc _ hp
    exact SqL.of (hp.1 _ _ enl)
  · intro i y Hc hy hp
    obtain ⟨g, acc, ea, pa⟩ := hp
    obtain ⟨pa', z, k', c', rfl, epa, hz, hkc⟩ := hps.get hy
    have epa5 := g _ _ epa
    have hz5 := hz.mono (tps_same g)
    have hmem : (k', c') ∈ nb ks c := by rw [nb_eq ek]; exact List.mem_of_getElem? hkc
    have ekc := nb_keys hK.srt hmem
    have hcc := hK.ht ekc
    have dn5 := dn4.same g
    refine ⟨pa', _, rfl, SqT.of epa5, rfl, _, _, rfl, _, _, rfl, rfl, rfl, ?_⟩
    refine ⟨_, rfl, _, rfl, fa, _, c', _, rfl, dn5, hz5, by omega, cv_mem (dfar ekc).1, ?_⟩
    refine ⟨_, rfl, _, rfl, fa, _, c, _, rfl, dn5, hx4.mono (tps_same g), by omega, cv_mem (dfar ek).1, _, _, rfl, rfl, _, rfl, ?_⟩
    by_cases hd : dv far c' < dv far c
    · refine iteB (c := true) (decide_eq_true (by omega)) (iteT ?_)
      refine ⟨_, rfl, _, rfl, sz2, fun p3 hp3 => ?_⟩
      have g3 := same_new hp3 (.tup [.int k', z])
      have eD := g3 _ _ ea
      have htp := tps_lst (o := .lst (acc ++ [.ref p3])) eD
      have hlen : acc.length ≤ 5 := by
        have h1 := pa.len
        have h2 := List.length_filter_le (fun p : Int × T => decide (dv far p.2 < dv far c)) ((near c).take i)
        have h3 := nb_len hK.len c
        rw [nb_eq ek] at h3
        rw [List.length_take] at h2
        omega
      refine ⟨acc, eD, small1000 (by omega), same_mut (g.trans g3) hD, _, upd_same, ?_⟩
      rw [take_snoc hkc, filter_snoc, if_pos (by simpa using hd)]
      exact PrL.snoc (htp _ _ upd_same) ((hz5.mono (tps_same g3)).mono htp) (pa.mono ((tps_same g3).trans htp))
    · refine iteB (c := false) (decide_eq_false (by omega)) (iteF ?_)
      refine ⟨g, acc, ea, ?_⟩
      rw [take_snoc hkc, filter_snoc, if_neg (by simpa using hd)]
      exact pa
  · intro Hc hp
    obtain ⟨g, acc, ea, pa⟩ := hp
    rw [hps.len, List.take_length, hgood] at pa
    cases pa with
    | @cons a z _ _ vs _ epa hz _ =>
      have g7 := (g5.trans g6).trans g
      have efo5 := g _ _ (g6 _ _ efo)
      have dn5 := dn4.same g
      refine ⟨_, rfl, .inl ⟨rfl, _, SqL.of efo5⟩, _, rfl, Da, _, _, _, rfl, rfl, SqL.of ea, atI_nat (j := 0) rfl, a, _, _, _, rfl, rfl, SqT.of epa, atI_nat (j := 0) rfl, fo, _, _, rfl, rfl, efo5, by rw [List.length_map]; exact small1000 (by omega), ?_⟩
      have nDf : Da ≠ fo := fun e => by rw [e, g6 _ _ efo] at hD; cases hD
      have tp := tps_lst (o := .lst (row.map V.int ++ [V.int k])) efo5
      have ea6 : upd Hc fo (.lst (row.map V.int ++ [V.int k])) Da = some (.lst (.ref a :: vs)) := by rw [upd_ne nDf]; exact ea
      refine ⟨_, rfl, Da, _, _, _, rfl, rfl, SqL.of ea6, atI_nat (j := 0) rfl, a, _, _, _, rfl, rfl, SqT.of (tp _ _ epa), atI_nat (j := 1) rfl, ?_⟩
      refine ⟨dv far c2, by omega, z, c2, row ++ [k], _, _, _, rfl, same_mut g7 hfoH, hz.mono tp, ek2, dn5.keep (fun o e => by rw [upd_ne nff]; exact e) tp, ?_, fun r gr => ?_, rfl⟩
      · rw [upd_same, List.map_append]; rfl
      · rw [List.append_assoc]
        exact hrow _ (hgr r gr)
end
end TT


/-! KW6 -/
namespace TT
open PySem PySem.Spec PyProof.Rows L2
section
variable {P : Program} {w : World} {K : PySem.W.Frag} {mg : Str → Option Value} {base : Heap}
/-- o[i] of a list, for o[i] op= e -/
def rGetL (K : PySem.W.Frag) : V → V → Hp → VK → Prop := fun o i H Q => ∃ (p : Addr) (xs : List V) (k : Nat) (v : V), o = .ref p ∧ i = .int k ∧ SqL K H p xs ∧ xs[k]? = some v ∧ Q v H
theorem get_list {X : Cx} : PGet X (rGetL X.K) := by
  intro pins s σ H o i ov iv Q I ro ri h
  obtain ⟨p, xs, k, v, rfl, rfl, hq, he, q⟩ := h
  cases (show ov = Value.ref p from ro)
  obtain ⟨t, rfl⟩ := ri
  obtain ⟨its, r, pl, hz⟩ := I.list hq
  obtain ⟨u, eu, ru⟩ := r.get he
  have hn := line63
  have hl : k < xs.length := (List.getElem?_eq_some_iff.mp he).1
  exact wpAny_getItem_list pl.isList (by omega) (by omega) (by simpa using eu) ⟨v, H, I, ru, q⟩

/-- all but what stands at x is as it was -/
def SBut (x : Addr) (H H' : Hp) : Prop := ∀ b o, b ≠ x → H b = some o → H' b = some o
theorem SBut.refl (x : Addr) (H : Hp) : SBut x H H := fun _ _ _ h => h
theorem SBut.trans {x : Addr} {H H1 H2 : Hp} (a : SBut x H H1) (b : SBut x H1 H2) : SBut x H H2 := fun c o n h => b c o n (a c o n h)
theorem sb_same {x : Addr} {H H' : Hp} (e : Same H H') : SBut x H H' := fun b o _ h => e b o h
theorem sb_upd {x : Addr} {H : Hp} {o : HO} : SBut x H (upd H x o) := fun b u n h => by rw [upd_ne n]; exact h
theorem sb_new {x p : Addr} {H : Hp} {o : HO} (h : H p = none) : SBut x H (upd H p o) := sb_same (same_new h o)
theorem SBut.tps {x : Addr} {H H' : Hp} {xs : List V} (e : SBut x H H') (h : H x = some (.lst xs)) : Tps H H' := fun b ys z => e b _ (fun q => by rw [q, h] at z; cases z) z
/-- the script stays, whatever becomes of the town -/
def Scr (K : PySem.W.Frag) (x : Addr) (H : Hp) (a : Addr) (ns : List Int) : Prop := ∀ H', SBut x H H' → SqL K H' a (ns.map V.int)
theorem Scr.mono {x a : Addr} {H H' : Hp} {ns : List Int} (h : Scr K x H a ns) (e : SBut x H H') : Scr K x H' a ns := fun H2 e2 => h H2 (e.trans e2)
theorem Scr.now {x a : Addr} {H : Hp} {ns : List Int} (h : Scr K x H a ns) : SqL K H a (ns.map V.int) := h H (SBut.refl x H)
theorem int_at {ns : List Int} {z : Int} (h0 : 0 ≤ z) (h : z < (ns.length : Int)) : ∃ v : Int, atI (ns.map V.int) z = some (.int v) ∧ ns[z.toNat]? = some v := by
  have hk : z.toNat < ns.length := by omega
  have ek : z = ((z.toNat : Nat) : Int) := by omega
  refine ⟨ns[z.toNat], ?_, List.getElem?_eq_getElem hk⟩
  have q : atI (ns.map V.int) ((z.toNat : Nat) : Int) = some (.int ns[z.toNat]) := atI_nat (by rw [List.getElem?_map, List.getElem?_eq_getElem hk] <;> rfl)
  rw [← ek] at q
  exact q

/-! ### _law_draw -/
def spDraw (K : PySem.W.Frag) : Sp := fun vs H Q _ => ∃ (a tw : Addr) (ns : List Int) (i j m : Int), vs = [.ref a, .ref tw, .int m] ∧ Scr K tw H a ns ∧ H tw = some (.lst [.int i, .int j]) ∧ 0 ≤ i ∧ 0 ≤ j ∧ 1 ≤ m ∧ m ≤ 1000 ∧
  ∀ (d i' j' : Int) (H' : Hp), 0 ≤ d → d < m → 0 ≤ i' → 0 ≤ j' → SBut tw H H' → H' tw = some (.lst [.int i', .int j']) → Q (.int d) H'
theorem scDraw : FnScope ["_law_script", "_law_town", "_law_many", "_law_one", "_law_at", "_law_mixed"] ["_law_script", "_law_town", "_law_many"] (defScope sDraw) := ⟨rfl, rfl, rfl, by decide +kernel, rfl, by decide +kernel, by decide +kernel⟩
theorem mod_lt {x m : Int} (h : 1 ≤ m) : 0 ≤ x % m ∧ x % m < m := ⟨Int.emod_nonneg x (by omega), Int.emod_lt_of_pos x (by omega)⟩
theorem ok_draw (D : Df K mg "_law_draw" sDraw ["_law_script", "_law_town", "_law_many"]) (ml : mg "len" = none) : Cal P w K mg base 1 "_law_draw" ["_law_script", "_law_town", "_law_many"] (spDraw K) := by
  refine D.cal fun f fd F => F.ok scDraw (fun vs H Q E h => ?_) (fun cdv A outer s H vs Q E hr h => ?_)
  · obtain ⟨a, tw, ns, i, j, m, rfl, _⟩ := h
    rfl
  obtain ⟨a, tw, ns, i, j, m, rfl, hS, ht, hi, hj, hm, hm2, q⟩ := h
  have cm : CDiv 0 m := ⟨by omega, by omega⟩
  refine ⟨_, pss_cons (ps_if (pt_cmpR op_gt (pe_ix ix_list (pv 1) pe_int (fun _ _ => rfl)) pe_int (nomark _))
      (pss_cons (ps_set (i := 3) scDraw.nd rfl (.inl rfl) (pe_op op_mod (pe_ix ix_list (pv 1) pe_int (fun _ _ => rfl)) (pv 2)))
      (pss_cons (ps_asg (pe_op op_fdiv (pe_ix ix_list (pv 1) pe_int (fun _ _ => rfl)) (pv 2)) (pg_sub (pv 1) pe_int set_list))
      (pss_one (ps_ret (pv 3))))) pss_nil)
    (pss_cons (ps_set (i := 4) scDraw.nd rfl (.inl rfl) (pe_ix ix_list (pv 1) pe_int (fun _ _ => rfl)))
    (pss_cons (ps_augS (pv 1) pe_int get_list pe_int ip_add set_list)
    (pss_cons (ps_if (pt_cmpR (op_eqI hr.units) (pv 0) (pe_lst pa_nil) (nomark _)) (pss_one (ps_ret (pe_op op_mod (pv 4) (pv 2)))) pss_nil)
    (pss_cons (ps_if (PW.pt (pw_and (pt_cmpR op_lt (pv 4) (pe_callB call_len_seq (by rfl) ml PySem.boot_len (pa_cons (pv 0) pa_nil)) (nomark _)) (pw_and1 (pt_cmpR op_ge (pe_ix ix_list (pv 0) (pv 4) (fun _ _ => rfl)) (pe_op op_pow pe_int pe_int) (nomark _)))))
      (pss_cons (ps_asg (pe_op op_mod (pe_op op_fdiv (pe_ix ix_list (pv 0) (pv 4) (fun _ _ => rfl)) (pv 2)) (pe_op op_mulW (pe_op op_pow pe_int pe_int) (pe_op op_pow pe_int pe_int))) (pg_sub (pv 1) pe_int set_list))
      (pss_one (ps_ret (pe_op op_mod (pe_ix ix_list (pv 0) (pv 4) (fun _ _ => rfl)) (pv 2))))) pss_nil)
    (pss_cons (ps_set (i := 5) scDraw.nd rfl (.inl rfl) (pe_op op_mod (pe_op op_add (pe_op op_add (pe_op op_mul (pe_ix ix_list (pv 0) (pe_op op_mod (pv 4) (pe_callB call_len_seq (by rfl) ml PySem.boot_len (pa_cons (pv 0) pa_nil))) (fun _ _ => rfl)) pe_int) (pe_op op_mul pe_int (pv 4))) pe_int) pe_int))
    (pss_one (ps_ret (pe_op op_mod (pe_op op_mod (pe_op op_mod (pe_op op_pow (pv 5) pe_int) pe_int) pe_int) (pv 2))))))))), ?_⟩
  refine ⟨_, rfl, tw, _, _, _, rfl, rfl, SqL.of ht, atI_nat (j := 1) rfl, _, _, rfl, rfl, _, rfl, ?_⟩
  refine ite2 (fun c => ?_) (fun c => ?_)
  · refine ⟨_, rfl, tw, _, _, _, rfl, rfl, SqL.of ht, atI_nat (j := 1) rfl, _, rfl, _, _, rfl, rfl, (show (0 : Int) < m by omega), ?_⟩
    refine ⟨_, rfl, tw, _, _, _, rfl, rfl, SqL.of ht, atI_nat (j := 1) rfl, _, rfl, _, _, rfl, rfl, ⟨by omega, by omega⟩, ?_⟩
    refine ⟨_, rfl, tw, _, _, 1, rfl, rfl, ht, rfl, ?_⟩
    obtain ⟨h1, h2⟩ := mod_lt (x := j) hm
    exact ⟨_, rfl, q (j % m) i (j / m) _ h1 h2 hi (Int.ediv_nonneg hj (by omega)) sb_upd upd_same⟩
  refine ⟨_, rfl, tw, _, _, _, rfl, rfl, SqL.of ht, atI_nat (j := 0) rfl, ?_⟩
  refine ⟨_, rfl, tw, _, 0, _, rfl, rfl, SqL.of ht, rfl, _, _, rfl, rfl, tw, _, _, 0, rfl, rfl, ht, rfl, ?_⟩
  have sb1 : SBut tw H (upd H tw (.lst [.int (i + 1), .int j])) := sb_upd
  refine ⟨_, rfl, sz0, fun p hp => ?_⟩
  have nt : tw ≠ p := ne_of_none (o := .lst [.int (i + 1), .int j]) upd_same hp
  have g2 : SBut tw H (upd (upd H tw (.lst [.int (i + 1), .int j])) p (.lst [])) := sb1.trans (sb_new hp)
  have et2 : upd (upd H tw (.lst [.int (i + 1), .int j])) p (.lst []) tw = some (.lst [.int (i + 1), .int j]) := by rw [upd_ne nt, upd_same]
  have hS2 := (hS.mono g2).now
  refine ⟨a, p, ns, [], rfl, rfl, hS2, SqL.of upd_same, _, rfl, ?_⟩
  refine ite2 (fun c2 => ?_) (fun c2 => ?_)
  · obtain ⟨h1, h2⟩ := mod_lt (x := i) hm
    exact ⟨_, rfl, _, rfl, _, _, rfl, rfl, (show (0 : Int) < m by omega), q _ (i + 1) j _ h1 h2 (by omega) hj g2 et2⟩
  have hne : ns ≠ [] := fun z => c2 (decide_eq_true z)
  have hpos : 0 < ns.length := List.length_pos_iff.mpr hne
  refine ⟨_, rfl, _, rfl, a, _, rfl, .inl hS2, _, _, rfl, rfl, _, rfl, ?_⟩
  -- the last way
  have last : (tSeq (tAsg (tOp (rI (fun _ j => 0 < j) fun i j => .int (i % j)) (tOp (rI0 fun i j => .int (i + j)) (tOp (rI0 fun i j => .int (i + j)) (tOp (rI CMul fun i j => .int (i * j)) (tOp (rIxL K) (tVar 0) (tOp (rI (fun _ j => 0 < j) fun i j => .int (i % j)) (tVar 4) (tCB (fun xs H Q => ∃ p ys, xs = [.ref p] ∧ (SqL K H p ys ∨ SqT K H p ys) ∧ Q (.int ys.length) H) (tCons (tVar 0) tNil)))) (tC (.int 1103515245)))
        (tOp (rI CMul fun i j => .int (i * j)) (tC (.int 7919)) (tVar 4))) (tC (.int 12345))) (tC (.int 2147483647))) (gName 5))
      (tRet (tOp (rI (fun _ j => 0 < j) fun i j => .int (i % j)) (tOp (rI (fun _ j => 0 < j) fun i j => .int (i % j)) (tOp (rI (fun _ j => 0 < j) fun i j => .int (i % j)) (tOp (rI CPow fun i j => .int (i ^ j.toNat)) (tVar 5) (tC (.int 5))) (tC (.int 2147483647))) (tC (.int 999983))) (tVar 2))))
      { nx := fun _ H' => Q .non H', rt := Q } [some (.ref a), some (.ref tw), some (.int m), none, some (.int i), none] (upd (upd H tw (.lst [.int (i + 1), .int j])) p (.lst [])) := by
    have hlen : (0 : Int) < ((ns.map V.int).length : Nat) := by rw [List.length_map]; omega
    have hb : 0 ≤ i % (((ns.map V.int).length : Nat) : Int) := Int.emod_nonneg _ (by omega)
    have hb2 : i % (((ns.map V.int).length : Nat) : Int) < (ns.length : Int) := by
      have := Int.emod_lt_of_pos i hlen
      rw [List.length_map] at this ⊢
      exact this
    obtain ⟨v, hv, _⟩ := int_at hb hb2
    refine ⟨_, rfl, _, rfl, _, rfl, a, _, rfl, .inl hS2, _, _, rfl, rfl, hlen, a, _, _, _, rfl, rfl, hS2, hv, _, _, rfl, rfl, .inr ⟨by decide, by decide⟩, ?_⟩
    refine ⟨_, rfl, _, _, rfl, rfl, .inl ⟨by decide, by decide⟩, _, _, rfl, rfl, _, _, rfl, rfl, _, _, rfl, rfl, (by decide : (0 : Int) < 2147483647), ?_⟩
    obtain ⟨h1, h2⟩ := mod_lt (x := v * 1103515245 + 7919 * i + 12345) (m := 2147483647) (by decide)
    refine ⟨_, rfl, _, _, rfl, rfl, ⟨by decide, by decide, by omega⟩, _, _, rfl, rfl, (by decide : (0 : Int) < 2147483647), _, _, rfl, rfl, (by decide : (0 : Int) < 999983), _, rfl, _, _, rfl, rfl, (show (0 : Int) < m by omega), ?_⟩
    obtain ⟨h3, h4⟩ := mod_lt (x := ((v * 1103515245 + 7919 * i + 12345) % 2147483647) ^ (5 : Int).toNat % 2147483647 % 999983) hm
    exact q _ (i + 1) j _ h3 h4 (by omega) hj g2 et2
  refine ite2 (fun c3 => ?_) (fun c3 => ?_)
  · have c3' : i < (((ns.map V.int).length : Nat) : Int) := of_decide_eq_true c3
    rw [List.length_map] at c3'
    obtain ⟨v, hv, _⟩ := int_at hi c3'
    refine ⟨_, rfl, _, rfl, a, _, _, _, rfl, rfl, hS2, hv, _, _, rfl, rfl, ⟨by decide, by decide, by decide⟩, _, _, rfl, rfl, _, rfl, ?_⟩
    refine ite2 (fun c4 => ?_) (fun c4 => last)
    refine ⟨_, rfl, _, rfl, a, _, _, _, rfl, rfl, hS2, hv, _, rfl, _, _, rfl, rfl, ⟨by omega, by omega⟩, ?_⟩
    refine ⟨_, _, rfl, rfl, ⟨by decide, by decide, by decide⟩, _, _, rfl, rfl, ⟨by decide, by decide, by decide⟩, _, _, rfl, rfl, wide_mul (a := 200) (b := 200) (by decide) (by decide) (by decide) (by decide) (by decide), ?_⟩
    refine ⟨_, _, rfl, rfl, (by decide : (0 : Int) < 10 ^ (60 : Int).toNat * 10 ^ (60 : Int).toNat), ?_⟩
    refine ⟨_, rfl, tw, _, _, 1, rfl, rfl, et2, rfl, ?_⟩
    have g3 : SBut tw H (upd (upd (upd H tw (.lst [.int (i + 1), .int j])) p (.lst [])) tw (.lst [.int (i + 1), .int (v / m % (10 ^ (60 : Int).toNat * 10 ^ (60 : Int).toNat))])) := g2.trans sb_upd
    refine ⟨_, rfl, _, rfl, a, _, _, _, rfl, rfl, (hS.mono g3).now, hv, _, rfl, _, _, rfl, rfl, (show (0 : Int) < m by omega), ?_⟩
    obtain ⟨h1, h2⟩ := mod_lt (x := v) hm
    exact q _ (i + 1) _ _ h1 h2 (by omega) (Int.emod_nonneg _ (by decide)) g3 upd_same
  · exact last
end
end TT


/-! KW7 -/
namespace TT
open PySem PySem.Spec PyProof.Rows L2
section
variable {P : Program} {w : World} {K : PySem.W.Frag} {mg : Str → Option Value} {base : Heap}
/-- the town's two numbers -/
def Town (H : Hp) (tw : Addr) : Prop := ∃ i j : Int, H tw = some (.lst [.int i, .int j]) ∧ 0 ≤ i ∧ 0 ≤ j
theorem Town.tps {x : Addr} {H H' : Hp} (t : Town H x) (e : SBut x H H') : Tps H H' := by
  obtain ⟨i, j, h, _⟩ := t
  exact e.tps h
theorem Town.keep {x : Addr} {H H' : Hp} (t : Town H x) (e : Same H H') : Town H' x := by
  obtain ⟨i, j, h, a⟩ := t
  exact ⟨i, j, e _ _ h, a⟩
theorem Town.ne {x p : Addr} {H : Hp} (t : Town H x) (h : H p = none) : p ≠ x := by
  obtain ⟨i, j, e, _⟩ := t
  exact (ne_of_none e h).symm

/-! ### _law_some_keys -/
def spSome (K : PySem.W.Frag) : Sp := fun vs H Q _ => ∃ (a tw : Addr) (ns : List Int), vs = [.ref a, .ref tw, .int 5] ∧ Scr K tw H a ns ∧ Town H tw ∧
  ∀ (r : Addr) (ks : List Int) (H' : Hp), SBut tw H H' → Town H' tw → H r = none → H' r = some (.lst (ks.map V.int)) → Ks ks → Q (.ref r) H'
theorem scSome : FnScope ["_law_script", "_law_town", "_law_most", "_law_key"] ["_law_script", "_law_town", "_law_most"] (defScope sSome) := ⟨rfl, rfl, rfl, by decide +kernel, rfl, by decide +kernel, by decide +kernel⟩
theorem ok_some (D : Df K mg "_law_some_keys" sSome ["_law_script", "_law_town", "_law_most"]) (R : Cal P w K mg base 1 "_law_draw" ["_law_script", "_law_town", "_law_many"] (spDraw K)) (mr : mg "range" = none) :
    Cal P w K mg base 2 "_law_some_keys" ["_law_script", "_law_town", "_law_most"] (spSome K) := by
  obtain ⟨r, rd, GR, bR, kR, mR⟩ := R
  refine D.cal fun f fd F => F.ok scSome (fun vs H Q E h => ?_) (fun cdv A outer s H vs Q E hr h => ?_)
  · obtain ⟨a, tw, ns, rfl, _⟩ := h
    rfl
  obtain ⟨a, tw, ns, rfl, hS, ht, q⟩ := h
  refine ⟨_, pss_one (ps_ret (pe_lc (own := [("_law_key", 3)]) (g := gName 3) (by rfl) scSome.nd (pi_range2 (by rfl) mr (pa_cons pe_int (pa_cons (pe_op op_add (pv 2) pe_int) pa_nil)))
    (blkOk_by (own := [("_law_key", 3)]) (N := ["_law_script", "_law_town", "_law_most", "_law_key"]) (sc := defScope sSome) (by decide +kernel)) (fun _ _ _ _ _ => pg_name (i := 3) scSome.nd rfl (Or.inl rfl))
    (fun _ _ _ _ _ => pts_one (pt_cmpR op_gt (pe_call GR hr (by rfl) mR kR bR .nil pass0 (pa_cons (pv 0) (pa_cons (pv 1) (pa_cons pe_int pa_nil)))) pe_int (nomark _)))
    (fun _ _ _ _ _ => pv 3))), ?_⟩
  refine ⟨_, rfl, _, _, rfl, rfl, 1, 6, rfl, ⟨by decide, by decide, by decide, by decide⟩, fun Da hD => ?_⟩
  have nDt := ht.ne hD
  refine lc_range (lo := 1) (n := 5) (fun i Hc => ∃ acc : List Int, SBut tw H Hc ∧ Town Hc tw ∧ Hc Da = some (.lst (acc.map V.int)) ∧ acc.Pairwise (· < ·) ∧ (∀ k, k ∈ acc → 1 ≤ k ∧ k ≤ (i : Int)) ∧ acc.length ≤ i) ?_ ?_ ?_
  · exact ⟨[], sb_new hD, ht.keep (same_new hD _), upd_same, List.Pairwise.nil, fun k hk => (by cases hk), Nat.le_refl _⟩
  · rintro i Hc hi ⟨acc, g, tc, ea, hp, hb, hl⟩
    obtain ⟨x, y, ex, hx, hy⟩ := id tc
    refine ⟨rfl, _, rfl, _, rfl, a, tw, ns, x, y, 3, rfl, hS.mono g, ex, hx, hy, by decide, by decide, fun d x' y' H' h1 h2 h3 h4 g' et => ?_⟩
    have ea' := g' _ _ nDt ea
    have t' : Town H' tw := ⟨x', y', et, h3, h4⟩
    refine ⟨_, _, rfl, rfl, _, rfl, ?_⟩
    refine ite2 (fun c => ?_) (fun c => ?_)
    · refine ⟨_, rfl, acc.map V.int, ea', by rw [List.length_map]; exact small1000 (by omega), acc ++ [1 + (i : Int)], ?_, ?_, ?_, ?_, ?_, ?_⟩
      · exact fun b o n h => by
          have nb : b ≠ Da := fun z => by rw [z, hD] at h; cases h
          rw [upd_ne nb]
          exact g' _ _ n (g _ _ n h)
      · exact ⟨x', y', by rw [upd_ne nDt.symm]; exact et, h3, h4⟩
      · rw [upd_same, List.map_append]; rfl
      · refine List.pairwise_append.mpr ⟨hp, by simp, fun p hp' z hz => ?_⟩
        have e : z = 1 + (i : Int) := by simpa using hz
        have := (hb p hp').2
        omega
      · intro k hk
        rcases List.mem_append.mp hk with z | z
        · have := hb k z
          omega
        · have e : k = 1 + (i : Int) := by simpa using z
          omega
      · rw [List.length_append, List.length_singleton]; omega
    · exact ⟨acc, g.trans g', t', ea', hp, fun k hk => by have := hb k hk; omega, by omega⟩
  · rintro Hc ⟨acc, g, tc, ea, hp, hb, hl⟩
    exact q Da acc Hc g tc hD ea ⟨hp, hl, fun k hk => by have := hb k hk; omega⟩

/-! ### _law_shape -/
theorem cut_lo {ks : List Int} {d : Int} (h0 : 0 ≤ d) (h : d ≤ (ks.length : Int)) : cutV (ks.map V.int) none (some d) = (ks.take d.toNat).map V.int := by
  have e : d = ((d.toNat : Nat) : Int) := by omega
  unfold cutV
  rw [HT.sIx_none, List.drop_zero, Nat.sub_zero, e, HT.sIx_nat, List.length_map, List.map_take]
  have e2 : min (((d.toNat : Nat) : Int).toNat) ks.length = d.toNat := by omega
  simp only [Int.toNat_natCast]
  rw [Nat.min_eq_left (by omega)]
theorem cut_hi {ks : List Int} {d : Int} (h0 : 0 ≤ d) (h : d < (ks.length : Int)) : cutV (ks.map V.int) (some (d + 1)) none = (ks.drop (d.toNat + 1)).map V.int := by
  have e : d + 1 = ((d.toNat + 1 : Nat) : Int) := by omega
  unfold cutV
  rw [HT.sIx_none, e, HT.sIx_nat, List.length_map, List.map_drop]
  rw [Nat.min_eq_left (by omega)]
  exact List.take_of_length_le (by rw [List.length_drop, List.length_map]; exact Nat.le_refl _)
def spShape (K : PySem.W.Frag) (n : Nat) : Sp := fun vs H Q _ => ∃ (a tw kl : Addr) (ns ks : List Int), vs = [.ref a, .ref tw, .ref kl] ∧ Scr K tw H a ns ∧ Town H tw ∧ H kl = some (.lst (ks.map V.int)) ∧ kl ≠ tw ∧ ks.length < n ∧ ks.length ≤ 900 ∧
  ∀ (z : V) (t : T) (H' : Hp), SBut tw H H' → Town H' tw → Sh H' z t → t.keys = ks → Q z H'
theorem scShape : FnScope ["_law_script", "_law_town", "_law_keys_here", "_law_at"] ["_law_script", "_law_town", "_law_keys_here"] (defScope sShape) := ⟨rfl, rfl, rfl, by decide +kernel, rfl, by decide +kernel, by decide +kernel⟩
theorem ok_shape1 {n : Nat} (D : Df K mg "_law_shape" sShape ["_law_script", "_law_town", "_law_keys_here"]) (N : Cal P w K mg base (n + 1) "_law_draw" ["_law_script", "_law_town", "_law_many"] (spDraw K))
    (R : Cal P w K mg base (n + 1) "_law_shape" ["_law_script", "_law_town", "_law_keys_here"] (spShape K n)) (ml : mg "len" = none) : Cal P w K mg base (n + 2) "_law_shape" ["_law_script", "_law_town", "_law_keys_here"] (spShape K (n + 1)) := by
  obtain ⟨g, gd, GN, bN, kN, mN⟩ := N
  obtain ⟨r, rd, GR, bR, kR, mR⟩ := R
  refine D.cal fun f fd F => F.ok scShape (fun vs H Q E h => ?_) (fun cdv A outer s H vs Q E hr h => ?_)
  · obtain ⟨a, tw, kl, ns, ks, rfl, _⟩ := h
    rfl
  obtain ⟨a, tw, kl, ns, ks, rfl, hS, ht, hk, nk, hl, hl9, q⟩ := h
  refine ⟨_, pss_cons (ps_if (pt_cmpR (op_eqI hr.units) (pv 2) (pe_lst pa_nil) (nomark _)) (pss_one (ps_ret (pe_tup pa_nil))) pss_nil)
    (pss_cons (ps_set (i := 3) scShape.nd rfl (.inl rfl) (pe_call GN hr (by rfl) mN kN bN .nil pass0 (pa_cons (pv 0) (pa_cons (pv 1) (pa_cons (pe_callB call_len_seq (by rfl) ml PySem.boot_len (pa_cons (pv 2) pa_nil)) pa_nil)))))
    (pss_one (ps_ret (pe_tup (pa_cons (pe_call GR hr (by rfl) mR kR bR .nil pass0 (pa_cons (pv 0) (pa_cons (pv 1) (pa_cons (pe_slice sl_list (pv 2) po_none (po_some (pv 3))) pa_nil))))
      (pa_cons (pe_ix ix_list (pv 2) (pv 3) (fun _ _ => rfl))
      (pa_cons (pe_call GR hr (by rfl) mR kR bR .nil pass0 (pa_cons (pv 0) (pa_cons (pv 1) (pa_cons (pe_slice sl_list (pv 2) (po_some (pe_op op_add (pv 3) pe_int)) po_none) pa_nil)))) pa_nil))))))), ?_⟩
  refine ⟨_, rfl, sz0, fun p hp => ?_⟩
  have g1 := same_new hp (.lst [])
  have hk1 := g1 _ _ hk
  have t1 := ht.keep g1
  refine ⟨kl, p, ks, [], rfl, rfl, SqL.of hk1, SqL.of upd_same, _, rfl, ?_⟩
  by_cases hks : ks = []
  · refine iteB (c := true) (by simp [hks]) (iteT ?_)
    refine ⟨sz0, fun p2 hp2 => ?_⟩
    have g2 := g1.trans (same_new hp2 (.tup []))
    exact q _ .nil _ (sb_same g2) (ht.keep g2) (.nil upd_same) (by rw [hks]; rfl)
  refine iteB (c := false) (by simp [hks]) (iteF ?_)
  have hpos : 0 < ks.length := List.length_pos_iff.mpr hks
  obtain ⟨x, y, ex, hx, hy⟩ := id t1
  have sb1 : SBut tw H _ := sb_same g1
  refine ⟨_, rfl, _, rfl, _, rfl, kl, _, rfl, .inl (SqL.of hk1), a, tw, ns, x, y, _, rfl, hS.mono sb1, ex, hx, hy, ?_, ?_, fun d x' y' H2 h1 h2 h3 h4 g2 et => ?_⟩
  · rw [List.length_map]; omega
  · rw [List.length_map]; omega
  rw [List.length_map] at h2
  have t2 : Town H2 tw := ⟨x', y', et, h3, h4⟩
  have hk2 := g2 _ _ nk hk1
  have sb2 := sb1.trans g2
  -- the left side
  refine ⟨_, rfl, _, rfl, _, rfl, _, rfl, d, rfl, kl, _, rfl, SqL.of hk2, fun p3 hp3 => ?_⟩
  have g3 := same_new hp3 (.lst (cutV (ks.map V.int) none (some d)))
  have e3 : upd H2 p3 (.lst (cutV (ks.map V.int) none (some d))) p3 = some (.lst ((ks.take d.toNat).map V.int)) := by rw [upd_same, cut_lo h1 (by omega)]
  refine ⟨a, tw, p3, ns, ks.take d.toNat, rfl, hS.mono (sb2.trans (sb_same g3)), t2.keep g3, e3, t2.ne hp3, by rw [List.length_take]; omega, by rw [List.length_take]; omega, fun z l H4 g4 t4 hz el => ?_⟩
  have hk4 := g4 _ _ nk (g3 _ _ hk2)
  have sb4 := (sb2.trans (sb_same g3)).trans g4
  obtain ⟨k, hka, hkg⟩ := int_at h1 h2
  refine ⟨_, rfl, _, rfl, kl, _, _, _, rfl, rfl, SqL.of hk4, hka, ?_⟩
  -- the right side
  refine ⟨_, rfl, _, rfl, _, rfl, _, rfl, _, _, rfl, rfl, _, rfl, kl, _, rfl, SqL.of hk4, fun p5 hp5 => ?_⟩
  have g5 := same_new hp5 (.lst (cutV (ks.map V.int) (some (d + 1)) none))
  have e5 : upd H4 p5 (.lst (cutV (ks.map V.int) (some (d + 1)) none)) p5 = some (.lst ((ks.drop (d.toNat + 1)).map V.int)) := by rw [upd_same, cut_hi h1 h2]
  refine ⟨a, tw, p5, ns, ks.drop (d.toNat + 1), rfl, hS.mono (sb4.trans (sb_same g5)), t4.keep g5, e5, t4.ne hp5, by rw [List.length_drop]; omega, by rw [List.length_drop]; omega, fun z2 r2 H6 g6 t6 hz2 er => ?_⟩
  refine ⟨sz3, fun p7 hp7 => ?_⟩
  have g7 := same_new hp7 (.tup [z, .int k, z2])
  refine q _ (.node l k r2) _ ((sb4.trans (sb_same g5)).trans (g6.trans (sb_same g7))) (t6.keep g7) (.node upd_same ?_ (hz2.mono (tps_same g7))) ?_
  · exact ((hz.mono (tps_same g5)).mono ((t4.keep g5).tps g6)).mono (tps_same g7)
  · have hk7 : d.toNat < ks.length := by omega
    have e7 : ks[d.toNat] = k := by
      have z := List.getElem?_eq_getElem hk7
      rw [hkg] at z
      exact (Option.some.inj z).symm
    show l.keys ++ [k] ++ r2.keys = ks
    rw [el, er, ← e7, List.append_assoc]
    show ks.take d.toNat ++ (ks[d.toNat] :: ks.drop (d.toNat + 1)) = ks
    rw [← List.drop_eq_getElem_cons hk7, List.take_append_drop]
theorem ok_shape (D : Df K mg "_law_shape" sShape ["_law_script", "_law_town", "_law_keys_here"]) (N : Cal P w K mg base 1 "_law_draw" ["_law_script", "_law_town", "_law_many"] (spDraw K)) (ml : mg "len" = none) :
    ∀ n : Nat, Cal P w K mg base (n + 1) "_law_shape" ["_law_script", "_law_town", "_law_keys_here"] (spShape K n)
  | 0 => D.none fun vs H Q E h => by
    obtain ⟨a, tw, kl, ns, ks, _, _, _, _, _, h1, _⟩ := h
    omega
  | n + 1 => ok_shape1 D (N.mono (by omega)) (ok_shape D N ml n) ml
end
end TT


/-! KW8 -/
namespace TT
open PySem PySem.Spec PyProof.Rows L2
section
variable {P : Program} {w : World} {K : PySem.W.Frag} {mg : Str → Option Value} {base : Heap}
/-! ### layers: lists of pairs (row, shape); no row stands at x -/
inductive LyL (x : Addr) (H : Hp) : List V → List (List Int × T) → Prop
  | nil : LyL x H [] []
  | cons {a ra : Addr} {y : V} {row : List Int} {u : T} {vs : List V} {l : List (List Int × T)} : H a = some (.tup [.ref ra, y]) → H ra = some (.lst (row.map V.int)) → ra ≠ x → Sh H y u → LyL x H vs l → LyL x H (.ref a :: vs) ((row, u) :: l)
/-- the lists but that at x stay -/
def Lps (x : Addr) (H H' : Hp) : Prop := ∀ b xs, b ≠ x → H b = some (.lst xs) → H' b = some (.lst xs)
theorem Lps.refl (x : Addr) (H : Hp) : Lps x H H := fun _ _ _ h => h
theorem Lps.trans {x : Addr} {H H1 H2 : Hp} (a : Lps x H H1) (b : Lps x H1 H2) : Lps x H H2 := fun c xs n h => b c xs n (a c xs n h)
theorem lps_same {x : Addr} {H H' : Hp} (e : Same H H') : Lps x H H' := fun b xs _ h => e b _ h
theorem lps_upd {x : Addr} {H : Hp} {o : HO} : Lps x H (upd H x o) := fun b xs n h => by rw [upd_ne n]; exact h
theorem lps_ext {x d : Addr} {H : Hp} {o : HO} (h : ∀ xs, H d ≠ some (.lst xs)) : Lps x H (upd H d o) := fun b xs _ e => by
  rw [upd_ne (fun z => by subst z; exact h xs e)]
  exact e
theorem DN.nlst {H : Hp} {d : Addr} {kvs : List (T × V)} (h : DN P w H d kvs) : ∀ xs, H d ≠ some (.lst xs) := fun xs z => by
  obtain ⟨φ, e⟩ := h.there
  rw [e] at z; cases z
theorem LyL.mono {x : Addr} {H H' : Hp} (t : Tps H H') (p : Lps x H H') {vs : List V} {l : List (List Int × T)} (h : LyL x H vs l) : LyL x H' vs l := by
  induction h with
  | nil => exact .nil
  | cons h1 h2 h3 h4 _ ih => exact .cons (t _ _ h1) (p _ _ h3 h2) h3 (h4.mono t) ih
theorem LyL.other {x y : Addr} {H : Hp} (hy : H y = none) {vs : List V} {l : List (List Int × T)} (h : LyL x H vs l) : LyL y H vs l := by
  induction h with
  | nil => exact .nil
  | cons h1 h2 h3 h4 _ ih => exact .cons h1 h2 (ne_of_none h2 hy) h4 ih
theorem LyL.not {x : Addr} {H : Hp} (hx : ∀ xs, H x ≠ some (.lst xs)) {y : Addr} {vs : List V} {l : List (List Int × T)} (h : LyL y H vs l) : LyL x H vs l := by
  induction h with
  | nil => exact .nil
  | cons h1 h2 h3 h4 _ ih => exact .cons h1 h2 (fun z => hx _ (by rw [← z]; exact h2)) h4 ih
theorem LyL.len {x : Addr} {H : Hp} {vs : List V} {l : List (List Int × T)} (h : LyL x H vs l) : vs.length = l.length := by
  induction h with
  | nil => rfl
  | cons _ _ _ _ _ ih => simp [ih]
theorem LyL.app {x : Addr} {H : Hp} : ∀ {vs ws : List V} {l m : List (List Int × T)}, LyL x H vs l → LyL x H ws m → LyL x H (vs ++ ws) (l ++ m)
  | _, _, _, _, .nil, h => h
  | _, _, _, _, .cons a b c d r, h => .cons a b c d (LyL.app r h)
theorem LyL.get {x : Addr} {H : Hp} : ∀ {vs : List V} {l : List (List Int × T)} {i : Nat} {v : V}, LyL x H vs l → vs[i]? = some v → ∃ a ra y row u, v = .ref a ∧ H a = some (.tup [.ref ra, y]) ∧ H ra = some (.lst (row.map V.int)) ∧ ra ≠ x ∧ Sh H y u ∧ l[i]? = some (row, u)
  | _, _, _, _, .nil, e => by simp at e
  | _, _, 0, _, .cons a b c d _, e => by
    simp at e
    subst e
    exact ⟨_, _, _, _, _, rfl, a, b, c, d, rfl⟩
  | _, _, i + 1, _, .cons _ _ _ _ r, e => by
    obtain ⟨a, ra, y, row, u, h1, h2, h3, h4, h5, h6⟩ := LyL.get (i := i) r (by simpa using e)
    exact ⟨a, ra, y, row, u, h1, h2, h3, h4, h5, by simpa using h6⟩
theorem LyL.both {x y : Addr} {H H' : Hp} (t : Tps H H') (p : ∀ b xs, b ≠ x → b ≠ y → H b = some (.lst xs) → H' b = some (.lst xs)) {vs : List V} {l : List (List Int × T)} (h : LyL x H vs l) : LyL y H vs l → LyL x H' vs l := by
  induction h with
  | nil => exact fun _ => .nil
  | cons h1 h2 h3 h4 _ ih =>
    intro g
    cases g with
    | cons g1 g2 g3 g4 g5 =>
      rw [h1] at g1
      cases g1
      exact .cons (t _ _ h1) (p _ _ h3 g3 h2) h3 (h4.mono t) (ih g5)
theorem split_get {α : Type} {l : List α} {i : Nat} {x : α} (h : l[i]? = some x) : l = l.take i ++ x :: l.drop (i + 1) := by
  obtain ⟨hi, e⟩ := List.getElem?_eq_some_iff.mp h
  rw [← e, ← List.drop_eq_getElem_cons hi, List.take_append_drop]
def sv (f : List T) : List (T × V) := f.map fun t => (t, V.bl true)
theorem sv_keys (f : List T) : (sv f).map (·.1) = f := by
  unfold sv
  rw [List.map_map]
  simp [Function.comp_def]
theorem sv_snoc (f : List T) (t : T) : sv f ++ [(t, V.bl true)] = sv (f ++ [t]) := by
  unfold sv
  rw [List.map_append]
  rfl
theorem sv_len (f : List T) : (sv f).length = f.length := by unfold sv; rw [List.length_map]

/-! ### _law_first -/
def spLfirst : Sp := fun vs H Q _ => ∃ (v u : V) (kl : Addr) (s t : T) (ks : List Int), vs = [v, u, .ref kl] ∧ Sh H v s ∧ Sh H u t ∧ Ks ks ∧ s.keys = ks ∧ t.keys = ks ∧ H kl = some (.lst (ks.map V.int)) ∧
  ∀ (r : Addr) (row : List Int) (H' : Hp), Same H H' → H' r = some (.lst (row.map V.int)) → IsMin (nb ks) s t row → Q (.ref r) H'
theorem scLfirst : FnScope ["_law_one", "_law_other", "_law_keys_here", "_law_layer", "_law_seen", "_law_later", "_law_row", "_law_shape_here", "_law_key"] ["_law_one", "_law_other", "_law_keys_here"] (defScope sLfirst) := ⟨rfl, rfl, rfl, by decide +kernel, rfl, by decide +kernel, by decide +kernel⟩
theorem ok_lfirst (D : Df K mg "_law_first" sLfirst ["_law_one", "_law_other", "_law_keys_here"]) (R : Cal P w K mg base 6 "_law_turn" ["_law_shape_here", "_law_key"] (spTurned 6)) : Cal P w K mg base 7 "_law_first" ["_law_one", "_law_other", "_law_keys_here"] spLfirst := by
  obtain ⟨r, rd, GR, bR, kR, mR⟩ := R
  refine D.cal fun f fd F => F.ok scLfirst (fun vs H Q E h => ?_) (fun cdv A outer s H vs Q E hr h => ?_)
  · obtain ⟨v, u, kl, s', t, ks, rfl, _⟩ := h
    rfl
  obtain ⟨v, u, kl, s', t, ks, rfl, hs, ht, hK, e1, e2, ekl, q⟩ := h
  have all := reach_all hK.srt hK.len e1
  have all42 := allT_len hK.len
  have asc := nb_asc hK.srt
  obtain ⟨dm, hdm⟩ := dst_ex hK.srt e1 e2
  have hdm42 := hdm.small all
  refine ⟨_, pss_cons (ps_par (i := 3) (j := 4) (by rfl) scLfirst.nd rfl rfl (by decide) rfl rfl (pa_cons (pe_lst (pa_cons (pe_tup (pa_cons (pe_lst pa_nil) (pa_cons (pv 0) pa_nil))) pa_nil)) (pa_cons pe_nnew pa_nil)) (by rfl))
    (pss_one (ps_while PassesOwn.never (pt_val pe_bl)
      (pss_cons (ps_set (i := 5) scLfirst.nd rfl (.inl rfl) (pe_lst pa_nil))
      (pss_cons (ps_for PassesOwn.never rfl (pi_list (pv 3)) (pg_tup (by rfl) (pgs_cons (pg_name (i := 6) scLfirst.nd rfl (.inr rfl)) (pgs_cons (pg_name (i := 7) scLfirst.nd rfl (.inr rfl)) pgs_nil)))
        (pss_cons (ps_if (pt_cmpR (op_eqS hr.units) (pv 7) (pv 1) (nomark _)) (pss_one (ps_ret (pv 6))) pss_nil)
        (pss_one (ps_if (pt_cmpR (op_nnotin hr.units) (pv 7) (pv 4) (by rfl))
          (pss_cons (ps_asg pe_bl (pg_sub (pv 4) (pv 7) (set_nd hr.units)))
          (pss_one (ps_expr (pe_bm PySem.F.plainAttrs_list PySem.F.slot_list_extend PySem.F.type_list_extend mt_extend (pv 5)
            (pa_cons (pe_lc (own := [("_law_key", 8)]) (g := gName 8) (by rfl) scLfirst.nd (pi_list (pv 2))
              (blkOk_by (own := [("_law_key", 8)]) (N := ["_law_one", "_law_other", "_law_keys_here", "_law_layer", "_law_seen", "_law_later", "_law_row", "_law_shape_here", "_law_key"]) (sc := defScope sLfirst) (by decide +kernel))
              (fun _ _ _ _ _ => pg_name (i := 8) scLfirst.nd rfl (Or.inl rfl))
              (fun _ _ _ _ _ => pts_one (pt_cmpR op_ne (pv 8) (pe_ix (r := rIxT K) ix_tup (pv 7) pe_int (fun _ _ => rfl)) (nomark _)))
              (fun _ _ _ _ _ => pe_tup (pa_cons (pe_op op_cat (pv 6) (pe_lst (pa_cons (pv 8) pa_nil))) (pa_cons (pe_call GR hr (by rfl) mR kR bR .nil pass0 (pa_cons (pv 7) (pa_cons (pv 8) pa_nil))) pa_nil)))) pa_nil))))) pss_nil))))
      (pss_one (ps_set (i := 3) scLfirst.nd rfl (.inl rfl) (pv 5))))))), ?_⟩
  -- the first layer
  refine ⟨sz0, fun p1 hp1 => ⟨_, rfl, sz2, fun p2 hp2 => ⟨sz1, fun p3 hp3 => ?_⟩⟩⟩
  refine fun fa ob hfa d0 => ⟨_, _, rfl, ?_⟩
  have g1 := same_new hp1 (.lst [])
  have g2 := same_new hp2 (.tup [.ref p1, v])
  have g3 := same_new hp3 (.lst [.ref p2])
  have g4 := same_new hfa ob
  have ga := ((g1.trans g2).trans g3).trans g4
  have hfaH : H fa = none := ((g1.trans g2).trans g3).free hfa
  refine ⟨fun m σ Hc => ∃ (ly : Addr) (layer : List (List Int × T)) (seen : List T) (vs : List V) (o5 o6 o7 o8 : Option V) (n : Nat), σ = [some v, some u, some (.ref kl), some (.ref ly), some (.ref fa), o5, o6, o7, o8] ∧ Same H Hc ∧ DN P w Hc fa (sv seen) ∧
      Hc ly = some (.lst vs) ∧ LyL fa Hc vs layer ∧ Lay (nb ks) s' t n layer seen ∧ m = dm - n, ⟨_, p3, [([], s')], [], [.ref p2], none, none, none, none, 0, rfl, ga, d0, g4 _ _ upd_same, ?_, Lay.start s' t, rfl⟩, ?_⟩
  · refine .cons (g4 _ _ (g3 _ _ upd_same)) (g4 _ _ (g3 _ _ (g2 _ _ upd_same))) ?_ (hs.mono (tps_same ga)) .nil
    exact ne_of_none (g3 _ _ (g2 _ _ upd_same)) hfa
  rintro m σ H1 ⟨ly, layer, seen, vs, o5, o6, o7, o8, n, rfl, g5, dn, ely, hly, L, hm⟩
  refine ⟨true, rfl, iteT ?_⟩
  have hn := L.tgt dm hdm
  refine ⟨fun σ' H' => ∃ m', m' < m ∧ ∃ (ly : Addr) (layer : List (List Int × T)) (seen : List T) (vs : List V) (o5 o6 o7 o8 : Option V) (n : Nat), σ' = [some v, some u, some (.ref kl), some (.ref ly), some (.ref fa), o5, o6, o7, o8] ∧ Same H H' ∧ DN P w H' fa (sv seen) ∧
      H' ly = some (.lst vs) ∧ LyL fa H' vs layer ∧ Lay (nb ks) s' t n layer seen ∧ m' = dm - n, fun _ _ z => z, ?_⟩
  -- later = []
  refine ⟨sz0, fun la hla => ?_⟩
  have gl := same_new hla (.lst [])
  have hlaH : H la = none := g5.free hla
  have nly : ly ≠ la := ne_of_none ely hla
  have nfa : fa ≠ la := by
    obtain ⟨φ, e⟩ := dn.there
    exact ne_of_none e hla
  have hly2 : LyL la (upd H1 la (.lst [])) vs layer := (hly.other hla).mono (tps_same gl) lps_upd
  have htht := hK.ht e2
  refine ⟨_, rfl, ly, rfl, ⟨_, SqL.of (gl _ _ ely)⟩, for_list (xs := vs) (fun i σ Hc => ∃ (seen' : List T) (later : List (List Int × T)) (ws : List V) (o6 o7 o8 : Option V), σ = [some v, some u, some (.ref kl), some (.ref ly), some (.ref fa), some (.ref la), o6, o7, o8] ∧ Same H Hc ∧ Tps (upd H1 la (.lst [])) Hc ∧ Lps la (upd H1 la (.lst [])) Hc ∧
      DN P w Hc fa (sv seen') ∧ Hc la = some (.lst ws) ∧ LyL la Hc ws later ∧ Lin (nb ks) s' t n (layer.take i) seen seen' later) ?_ ?_ ?_ ?_⟩
  · exact ⟨seen, [], [], o6, o7, o8, rfl, g5.trans gl, Tps.refl _, Lps.refl _ _, dn.same gl, upd_same, .nil, L.lin⟩
  · rintro i σ Hc _ ⟨_, _, _, _, _, _, _, _, _, lp, _⟩
    exact SqL.of (lp _ _ nly (gl _ _ ely))
  · -- a turn
    rintro i x σ H2 hx ⟨seen', later, ws, o6, o7, o8, rfl, g6, t6, l6, dn6, ela6, hla6, J⟩
    obtain ⟨a, ra, y, row, c, rfl, ea, era, nra, hy, hrc⟩ := (hly2.mono t6 l6).get hx
    have hsp := split_get hrc
    have L' := L
    rw [hsp] at L'
    obtain ⟨pc, hrl⟩ := L.pth (row, c) (List.mem_of_getElem? hrc)
    have ekc : c.keys = ks := path_keys hK.srt pc e1
    have hcht := hK.ht ekc
    have hrl : row.length = n := hrl
    have ht6 := ht.mono (tps_same g6)
    refine ⟨a, _, rfl, SqT.of ea, rfl, _, _, rfl, _, _, rfl, rfl, ?_⟩
    refine ⟨_, rfl, _, rfl, c, t, hy, ht6, by omega, by omega, _, rfl, ?_⟩
    by_cases hct : c = t
    · refine iteB (c := true) (by simp [hct]) (iteT ?_)
      refine ⟨_, rfl, q ra row _ g6 era ?_⟩
      rw [hct] at L'
      exact J.hit asc L'
    refine iteB (c := false) (by simp [hct]) (iteF ?_)
    refine ⟨_, rfl, _, rfl, c, fa, _, hy, by omega, rfl, dn6, _, rfl, ?_⟩
    rw [sv_keys]
    by_cases hin : c ∈ seen'
    · refine iteB (c := false) (by simp [hin]) (iteF ?_)
      refine ⟨seen', later, ws, _, _, _, rfl, g6, t6, l6, dn6, ela6, hla6, ?_⟩
      rw [take_snoc hrc]
      exact J.skip L' hct hin
    refine iteB (c := true) (by simp [hin]) (iteT ?_)
    have J7 := J.push asc L' hct hin
    rw [← take_snoc hrc] at J7
    have L'' : Lay (nb ks) s' t n (layer.take i ++ layer.drop i) seen := by rw [List.take_append_drop]; exact L
    have ss := J.seen_small L'' all
    have sl := J.len 5 (nb_len hK.len)
    -- seen[shape] = True
    refine ⟨_, rfl, _, rfl, fa, _, c, rfl, dn6, hy, by omega, by rw [sv_keys]; exact hin, by rw [sv_len]; exact small1000 (by omega), fun ob7 dn7 => ?_⟩
    have tp7 := tps_upd (o := ob7) dn6.ntup
    have lp7 : Lps la H2 (upd H2 fa ob7) := lps_ext dn6.nlst
    have g7 := same_mut (o := ob7) g6 hfaH
    have ela7 : upd H2 fa ob7 la = some (.lst ws) := by rw [upd_ne nfa.symm]; exact ela6
    have ekl7 := g7 _ _ ekl
    have hy7 := hy.mono tp7
    have era7 := lp7 _ _ nra era
    -- later.extend
    refine ⟨_, rfl, .inl ⟨rfl, _, SqL.of ela7⟩, _, rfl, kl, rfl, ⟨_, SqL.of ekl7⟩, fun Da hD => ?_⟩
    have nDl : Da ≠ la := (ne_of_none ela7 hD).symm
    refine lc_list (xs := ks.map V.int) (fun j Hc => Same (upd H2 fa ob7) Hc ∧ ∃ acc, Hc Da = some (.lst acc) ∧ LyL la Hc acc ((nearP c (ks.take j)).map fun p => (row ++ [p.1], p.2)) ∧ LyL Da Hc acc ((nearP c (ks.take j)).map fun p => (row ++ [p.1], p.2))) ?_ ?_ ?_ ?_
    · exact ⟨same_new hD _, [], upd_same, .nil, .nil⟩
    · intro j Hc _ hp
      exact SqL.of (hp.1 _ _ ekl7)
    · intro j z Hc hz hp
      obtain ⟨g, acc, eacc, pacc, pacD⟩ := hp
      obtain ⟨k, rfl, hk⟩ := map_get hz
      have hm : k ∈ c.keys := by rw [ekc]; exact List.mem_of_getElem? hk
      have hyc := hy7.mono (tps_same g)
      obtain ⟨p, rfl, hc⟩ := hyc.cases
      rcases hc with ⟨rfl, _⟩ | ⟨x0, t0, y0, l', r', rfl, e, hx2, hy2⟩
      · cases hm
      refine ⟨rfl, _, rfl, _, rfl, p, _, _, _, rfl, rfl, SqT.of e, atI_nat (j := 1) rfl, rfl, _, rfl, ?_⟩
      by_cases hkt : k = t0
      · refine iteB (c := false) (by rw [hkt]; simp) (iteF ?_)
        refine ⟨g, acc, eacc, ?_⟩
        rw [take_snoc hk, nearP_snoc, if_pos (show k = (T.node l' t0 r').top from hkt)]
        exact ⟨pacc, pacD⟩
      · refine iteB (c := true) (by simp [hkt]) (iteT ?_)
        have era8 := g _ _ era7
        refine ⟨_, rfl, _, rfl, sz1, fun q1 hq1 => ?_⟩
        have h1 := same_new hq1 (.lst [V.int k])
        refine ⟨ra, q1, _, _, rfl, rfl, h1 _ _ era8, upd_same, by rw [List.length_map]; exact sz_le (by show row.length + 1 ≤ 1000; omega), fun q2 hq2 => ?_⟩
        have h2 := same_new hq2 (.lst (row.map V.int ++ [V.int k]))
        have h12 := h1.trans h2
        refine ⟨_, rfl, _, rfl, _, _, k, rfl, hyc.mono (tps_same h12), by omega, by omega, hK.tsrt ekc, hm, hkt, fun z3 H3 g3 hz3 => ?_⟩
        refine ⟨sz2, fun q4 hq4 => ?_⟩
        have h4 := same_new hq4 (.tup [.ref q2, z3])
        have hx := (h12.trans g3).trans h4
        have eD := hx _ _ eacc
        have htp := tps_lst (o := .lst (acc ++ [.ref q4])) eD
        have hlen : acc.length ≤ 900 := by
          have b1 := pacc.len
          have b2 := nearP_len (T.node l' t0 r') (ks.take j)
          have b3 := hK.len
          rw [List.length_map] at b1
          rw [List.length_take] at b2
          omega
        have eq2 : H3 q2 = some (.lst ((row ++ [k]).map V.int)) := by
          have z := g3 _ _ (upd_same (H := upd Hc q1 (.lst [V.int k])) (a := q2) (o := .lst (row.map V.int ++ [V.int k])))
          rw [List.map_append]
          exact z
        have nq2D : q2 ≠ Da := fun z => by
          rw [z] at hq2
          rw [h1 _ _ eacc] at hq2
          cases hq2
        have nq2l : q2 ≠ la := fun z => by
          rw [z] at hq2
          rw [h1 _ _ (g _ _ ela7)] at hq2
          cases hq2
        refine ⟨acc, eD, small1000 (by omega), same_mut (g.trans hx) hD, _, upd_same, ?_⟩
        rw [take_snoc hk, nearP_snoc, if_neg (show ¬ k = (T.node l' t0 r').top from hkt), List.map_append]
        have pl : ∀ b xs, b ≠ la → b ≠ Da → (upd H3 q4 (.tup [.ref q2, z3])) b = some (.lst xs) → (upd (upd H3 q4 (.tup [.ref q2, z3])) Da (.lst (acc ++ [.ref q4]))) b = some (.lst xs) := fun b xs _ n hb => by rw [upd_ne n]; exact hb
        have old := LyL.both htp pl (pacc.mono (tps_same hx) (lps_same hx)) (pacD.mono (tps_same hx) (lps_same hx))
        have oldD := (pacD.mono (tps_same hx) (lps_same hx)).mono htp lps_upd
        have er : (upd (upd H3 q4 (.tup [.ref q2, z3])) Da (.lst (acc ++ [.ref q4]))) q2 = some (.lst ((row ++ [k]).map V.int)) := by rw [upd_ne nq2D]; exact h4 _ _ eq2
        have hz4 := (hz3.mono (tps_same h4)).mono htp
        exact ⟨old.app (.cons (htp _ _ upd_same) er nq2l hz4 .nil), oldD.app (.cons (htp _ _ upd_same) er nq2D hz4 .nil)⟩
    · -- behind the comprehension
      rintro Hc ⟨g, acc, eacc, pacc, _⟩
      have ela8 := g _ _ ela7
      have nlen : acc.length ≤ 5 := by
        have b1 := pacc.len
        have b2 := nearP_len c (ks.take (ks.map V.int).length)
        have b3 := hK.len
        rw [List.length_map] at b1
        rw [List.length_take] at b2
        omega
      have wlen := hla6.len
      refine ⟨la, Da, ws, acc, rfl, rfl, ela8, eacc, sz_le (by omega), ?_⟩
      have tp9 := tps_lst (o := .lst (ws ++ acc)) ela8
      have tg := tps_same g
      refine ⟨seen' ++ [c], later ++ (nb ks c).map (fun p => (row ++ [p.1], p.2)), ws ++ acc, _, _, _, rfl, same_mut (g7.trans g) hlaH, (t6.trans tp7).trans (tg.trans tp9), ((l6.trans lp7).trans (lps_same g)).trans lps_upd, ?_, upd_same, ?_, J7⟩
      · rw [← sv_snoc]
        exact (dn7.same g).keep (fun o e => by rw [upd_ne nfa]; exact e) tp9
      · refine LyL.app (((hla6.mono tp7 lp7).mono tg (lps_same g)).mono tp9 lps_upd) ?_
        have z := pacc.mono tp9 (lps_upd (o := .lst (ws ++ acc)))
        rw [List.length_map, List.take_length] at z
        have en : nb ks c = nearP c ks := by rw [nb_eq ekc, ← ekc]; rfl
        rw [en]
        exact z
  · -- behind the layer
    rintro σ Hc ⟨seen', later, ws, o6, o7, o8, rfl, g6, t6, l6, dn6, ela6, hla6, J⟩
    rw [hly.len, List.take_length] at J
    have L2' := J.done asc L
    have hn2 := L2'.tgt dm hdm
    exact ⟨_, rfl, _, by omega, la, later, seen', ws, _, o6, o7, o8, n + 1, rfl, g6, dn6, ela6, hla6.not dn6.nlst, L2', rfl⟩
end
end TT


/-! KW9 -/
namespace TT
open PySem PySem.Spec PyProof.Rows L2
section
variable {P : Program} {w : World} {K : PySem.W.Frag} {mg : Str → Option Value} {base : Heap}
/-! ### law -/
def spLaw (K : PySem.W.Frag) : Sp := fun vs H Q _ => ∃ (a : Addr) (ns : List Int), vs = [.ref a] ∧ SqL K H a (ns.map V.int) ∧ ∀ H', Q (.bl true) H'
theorem scr_of {H : Hp} {a tw : Addr} {ns : List Int} {o : HO} (h : SqL K H a (ns.map V.int)) (ht : H tw = none) : Scr K tw (upd H tw o) a ns := by
  intro H' e
  rcases h with (h | ⟨ob, h⟩) | h
  · have n : a ≠ tw := ne_of_none h ht
    exact .inl (.inl (e _ _ n (by rw [upd_ne n]; exact h)))
  · have n : a ≠ tw := ne_of_none h ht
    exact .inl (.inr ⟨ob, e _ _ n (by rw [upd_ne n]; exact h)⟩)
  · exact .inr h
theorem scLaw : FnScope ["_law_script", "_law_town", "_law_keys_here", "_law_one", "_law_other", "_law_due", "_law_third", "_law_key"] ["_law_script"] (defScope sLaw) := ⟨rfl, rfl, rfl, by decide +kernel, rfl, by decide +kernel, by decide +kernel⟩
theorem ok_law {f : Addr} {fd : FuncData} (F : Fun K "law" "law" sLaw f fd)
    (C1 : Cal P w K mg base 11 "_law_some_keys" ["_law_script", "_law_town", "_law_most"] (spSome K))
    (C2 : Cal P w K mg base 11 "_law_shape" ["_law_script", "_law_town", "_law_keys_here"] (spShape K 6))
    (C3 : Cal P w K mg base 11 "_law_first" ["_law_one", "_law_other", "_law_keys_here"] spLfirst)
    (C4 : Cal P w K mg base 11 "distance" ["one", "other"] spDist)
    (C5 : Cal P w K mg base 11 "first_turns" ["one", "other"] spFirst)
    (C6 : Cal P w K mg base 11 "rotated" ["shape", "key"] spRot) (ml : mg "len" = none) : FnOk P w K mg base CX0 12 f fd ["_law_script"] (spLaw K) := by
  obtain ⟨f1, d1, G1, b1, k1, m1⟩ := C1
  obtain ⟨f2, d2, G2, b2, k2, m2⟩ := C2
  obtain ⟨f3, d3, G3, b3, k3, m3⟩ := C3
  obtain ⟨f4, d4, G4, b4, k4, m4⟩ := C4
  obtain ⟨f5, d5, G5, b5, k5, m5⟩ := C5
  obtain ⟨f6, d6, G6, b6, k6, m6⟩ := C6
  refine F.ok scLaw (fun vs H Q E h => ?_) (fun cdv A outer s H vs Q E hr h => ?_)
  · obtain ⟨a, ns, rfl, _⟩ := h
    rfl
  obtain ⟨a, ns, rfl, hS, q⟩ := h
  refine ⟨_, pss_cons (ps_set (i := 1) scLaw.nd rfl (.inl rfl) (pe_lst (pa_cons pe_int (pa_cons pe_int pa_nil))))
    (pss_cons (ps_set (i := 2) scLaw.nd rfl (.inl rfl) (pe_call G1 hr (by rfl) m1 k1 b1 .nil pass0 (pa_cons (pv 0) (pa_cons (pv 1) (pa_cons pe_int pa_nil)))))
    (pss_cons (ps_par (i := 3) (j := 4) (by rfl) scLaw.nd rfl rfl (by decide) rfl rfl (pa_cons (pe_call G2 hr (by rfl) m2 k2 b2 .nil pass0 (pa_cons (pv 0) (pa_cons (pv 1) (pa_cons (pv 2) pa_nil)))) (pa_cons (pe_call G2 hr (by rfl) m2 k2 b2 .nil pass0 (pa_cons (pv 0) (pa_cons (pv 1) (pa_cons (pv 2) pa_nil)))) pa_nil)) (by rfl))
    (pss_cons (ps_set (i := 5) scLaw.nd rfl (.inl rfl) (pe_call G3 hr (by rfl) m3 k3 b3 .nil pass0 (pa_cons (pv 3) (pa_cons (pv 4) (pa_cons (pv 2) pa_nil)))))
    (pss_cons (ps_if (PW.pt (pw_or (pt_cmpR op_ne (pe_call G4 hr (by rfl) m4 k4 b4 .nil pass0 (pa_cons (pv 3) (pa_cons (pv 4) pa_nil))) (pe_callB call_len_seq (by rfl) ml PySem.boot_len (pa_cons (pv 5) pa_nil)) (nomark _))
      (pw_or1 (pt_cmpR (op_neI hr.units) (pe_call G5 hr (by rfl) m5 k5 b5 .nil pass0 (pa_cons (pv 3) (pa_cons (pv 4) pa_nil))) (pv 5) (nomark _))))) pss_never pss_nil)
    (pss_cons (ps_if (pt_cmpR op_ne (pe_call G4 hr (by rfl) m4 k4 b4 .nil pass0 (pa_cons (pv 4) (pa_cons (pv 3) pa_nil))) (pe_callB call_len_seq (by rfl) ml PySem.boot_len (pa_cons (pv 5) pa_nil)) (nomark _)) pss_never pss_nil)
    (pss_cons (ps_set (i := 6) scLaw.nd rfl (.inl rfl) (pe_call G2 hr (by rfl) m2 k2 b2 .nil pass0 (pa_cons (pv 0) (pa_cons (pv 1) (pa_cons (pv 2) pa_nil)))))
    (pss_cons (ps_if (pt_cmpR op_gt (pe_call G4 hr (by rfl) m4 k4 b4 .nil pass0 (pa_cons (pv 3) (pa_cons (pv 6) pa_nil))) (pe_op op_add (pe_call G4 hr (by rfl) m4 k4 b4 .nil pass0 (pa_cons (pv 3) (pa_cons (pv 4) pa_nil))) (pe_call G4 hr (by rfl) m4 k4 b4 .nil pass0 (pa_cons (pv 4) (pa_cons (pv 6) pa_nil)))) (nomark _)) pss_never pss_nil)
    (pss_cons (ps_for PassesOwn.never rfl (pi_list (pe_call G5 hr (by rfl) m5 k5 b5 .nil pass0 (pa_cons (pv 3) (pa_cons (pv 6) pa_nil)))) (pg_name (i := 7) scLaw.nd rfl (.inl rfl))
      (pss_one (ps_set (i := 3) scLaw.nd rfl (.inl rfl) (pe_call G6 hr (by rfl) m6 k6 b6 .nil pass0 (pa_cons (pv 3) (pa_cons (pv 7) pa_nil))))))
    (pss_one (ps_ret (pe_cmpR (op_eqS hr.units) (pv 3) (pv 6) (nomark _)))))))))))), ?_⟩
  -- the town
  refine ⟨sz2, fun tw htw => ?_⟩
  have hS1 : Scr K tw (upd H tw (.lst [.int 0, .int 0])) a ns := scr_of hS htw
  have t1 : Town (upd H tw (.lst [.int 0, .int 0])) tw := ⟨0, 0, upd_same, Int.le_refl 0, Int.le_refl 0⟩
  -- the keys
  refine ⟨_, rfl, _, rfl, a, tw, ns, rfl, hS1, t1, fun kl ks H2 e2 t2 nkl ekl hK => ?_⟩
  have nk := t1.ne nkl
  have hl := hK.len
  -- one, other
  refine ⟨_, rfl, _, rfl, _, rfl, a, tw, kl, ns, ks, rfl, hS1.mono e2, t2, ekl, nk, by omega, by omega, fun v one H3 e3 t3 hv ev => ?_⟩
  refine ⟨_, rfl, _, rfl, _, rfl, a, tw, kl, ns, ks, rfl, hS1.mono (e2.trans e3), t3, e3 _ _ nk ekl, nk, by omega, by omega, fun u other H4 e4 t4 hu eu => ⟨_, _, rfl, ?_⟩⟩
  have hv4 := hv.mono (t3.tps e4)
  have ekl4 := e4 _ _ nk (e3 _ _ nk ekl)
  have hS4 := hS1.mono ((e2.trans e3).trans e4)
  have asc := nb_asc hK.srt
  -- due
  refine ⟨_, rfl, _, rfl, _, rfl, v, u, kl, one, other, ks, rfl, hv4, hu, hK, ev, eu, ekl4, fun rd row H5 g5 ed hmin => ?_⟩
  have hv5 := hv4.mono (tps_same g5)
  have hu5 := hu.mono (tps_same g5)
  -- the first test
  refine ⟨_, rfl, _, rfl, v, u, one, other, ks, rfl, hv5, hu5, hK, ev, eu, fun n H6 g6 hd => ?_⟩
  have en : n = row.length := hd.uniq hmin.dst
  subst en
  refine ⟨_, rfl, rd, _, rfl, .inl (SqL.of (g6 _ _ ed)), rfl, false, by simp, iteF ?_⟩
  have g56 := tps_same g6
  refine ⟨_, rfl, _, rfl, v, u, one, other, ks, rfl, hv5.mono g56, hu5.mono g56, hK, ev, eu, fun r7 row7 H7 g7 n7 e7 hg7 => ?_⟩
  have er : row7 = row := (hg7.min asc).uniq hmin
  subst er
  have ed7 := g7 _ _ (g6 _ _ ed)
  refine ⟨_, rfl, r7, rd, _, _, rfl, rfl, SqL.of e7, SqL.of ed7, false, by simp, iteF ?_⟩
  have g57 := g56.trans (tps_same g7)
  have hv7 := hv5.mono g57
  have hu7 := hu5.mono g57
  -- the second test
  refine ⟨_, rfl, _, rfl, u, v, other, one, ks, rfl, hu7, hv7, hK, eu, ev, fun n H8 g8 hd8 => ?_⟩
  have en : n = row7.length := (dst_back hK.srt hd8).uniq hmin.dst
  subst en
  refine ⟨_, rfl, rd, _, rfl, .inl (SqL.of (g8 _ _ ed7)), rfl, false, by simp, iteF ?_⟩
  -- third
  have g48 : Same H4 H8 := ((g5.trans g6).trans g7).trans g8
  have t8 := t4.keep g48
  have hv8 := hv7.mono (tps_same g8)
  have hu8 := hu7.mono (tps_same g8)
  refine ⟨_, rfl, _, rfl, _, rfl, a, tw, kl, ns, ks, rfl, hS4.mono (sb_same g48), t8, g48 _ _ ekl4, nk, by omega, by omega, fun z third H9 e9 t9 hz ez => ?_⟩
  have hv9 := hv8.mono (t8.tps e9)
  have hu9 := hu8.mono (t8.tps e9)
  -- the third test
  refine ⟨_, rfl, _, rfl, v, z, one, third, ks, rfl, hv9, hz, hK, ev, ez, fun n1 H10 g10 h1 => ?_⟩
  have q10 := tps_same g10
  refine ⟨_, rfl, _, rfl, v, u, one, other, ks, rfl, hv9.mono q10, hu9.mono q10, hK, ev, eu, fun n2 H11 g11 h2 => ?_⟩
  have q11 := q10.trans (tps_same g11)
  refine ⟨_, rfl, _, rfl, u, z, other, third, ks, rfl, hu9.mono q11, hz.mono q11, hK, eu, ez, fun n3 H12 g12 h3 => ?_⟩
  have q12 := q11.trans (tps_same g12)
  refine ⟨_, _, rfl, rfl, _, _, rfl, rfl, false, ?_, iteF ?_⟩
  · have := h1.tri h2 h3
    refine congrArg V.bl (decide_eq_false ?_)
    omega
  -- the turns
  refine ⟨_, rfl, _, rfl, v, z, one, third, ks, rfl, hv9.mono q12, hz.mono q12, hK, ev, ez, fun r row H13 g13 n13 e13 hg => ?_⟩
  have q13 := q12.trans (tps_same g13)
  refine ⟨r, rfl, ⟨_, SqL.of e13⟩, for_list (xs := row.map V.int) (fun i σ Hc => ∃ (x : V) (c : T) (o7 : Option V), σ = [some (.ref a), some (.ref tw), some (.ref kl), some x, some u, some (.ref rd), some z, o7] ∧ Same H13 Hc ∧ Sh Hc x c ∧ c.keys = ks ∧ Path (nb ks) c (row.drop i) third) ?_ ?_ ?_ ?_⟩
  · exact ⟨v, one, none, rfl, Same.refl _, hv9.mono q13, ev, hg.path⟩
  · rintro i σ Hc _ ⟨_, _, _, _, g, _⟩
    exact SqL.of (g _ _ e13)
  · rintro i y σ Hc hy ⟨x, c, o7, rfl, g, hx, ec, hp⟩
    obtain ⟨k, rfl, hk⟩ := map_get hy
    obtain ⟨hi, hki⟩ := List.getElem?_eq_some_iff.mp hk
    rw [List.drop_eq_getElem_cons hi, hki] at hp
    obtain ⟨p1, p2, p3⟩ := path_turns hp
    have hkr := hK.rng k (by rw [← ec]; exact p1)
    refine ⟨_, rfl, _, rfl, x, c, k, rfl, hx, hK.good ec, hK.tsrt ec, hK.l900 ec, hkr.1, hkr.2, p1, p2, fun y' H' g' hy' => ?_⟩
    exact ⟨y', c.turn k, _, rfl, g.trans g', hy', (T.turn_keys c k (hK.tsrt ec) p1 p2).trans ec, p3⟩
  · rintro σ Hc ⟨x, c, o7, rfl, g, hx, ec, hp⟩
    rw [List.length_map, List.drop_length] at hp
    have e : c = third := hp.zero rfl
    subst e
    have := hK.ht ec
    refine ⟨_, rfl, _, rfl, c, c, hx, (hz.mono q13).mono (tps_same g), by omega, by omega, ?_⟩
    rw [decide_eq_true rfl]
    exact q Hc
end

/-! ### the program's top -/
section
variable {K : PySem.W.Frag} {mg : Str → Option Value}
theorem df_mk {h : Heap} (X : K.In h) (G : h.Ns mainGlobals mg) {x : Str} {st : Stmt} {ps : List Str} {f : Addr} {oc : Value} {od an : Option Addr} {osl : Array (Option Value)} {kV doc pm cdv ct : Value}
    (a : PySem.W.nsIn K mainGlobals x = some (some (.ref f))) (l : K.lookup f = some ⟨oc, od, .func (PySem.W.fnOf x x (defArgs st) (defBody st) (defScope st) .none kV doc pm an cdv ct), osl⟩)
    (c : PySem.W.codeIn K cdv x = true) (k : PySem.W.keepIn K (.ref f) = true)
    (hb : ∀ (kV doc pm : Value) (an : Option Addr) (cdv ct : Value) (us : List Value), us.length = ps.length → bindArgs (PySem.W.fnOf x x (defArgs st) (defBody st) (defScope st) .none kV doc pm an cdv ct) ⟨us, []⟩ = pure (ps.zip us)) : Df K mg x st ps := by
  have F := fun_mk (st := st) l c k
  exact ⟨f, _, F, F.binds hb, PySem.W.mg_of X G a⟩
theorem b1 {x : Str} {st : Stmt} {y : Str} (h : ∀ (kV doc pm : Value) (an : Option Addr) (cdv ct u : Value), bindArgs (PySem.W.fnOf x x (defArgs st) (defBody st) (defScope st) .none kV doc pm an cdv ct) ⟨[u], []⟩ = pure [(y, u)]) :
    ∀ (kV doc pm : Value) (an : Option Addr) (cdv ct : Value) (us : List Value), us.length = [y].length → bindArgs (PySem.W.fnOf x x (defArgs st) (defBody st) (defScope st) .none kV doc pm an cdv ct) ⟨us, []⟩ = pure ([y].zip us) :=
  fun kV doc pm an cdv ct us hl => match us, hl with | [u], _ => h kV doc pm an cdv ct u
theorem b2 {x : Str} {st : Stmt} {y z : Str} (h : ∀ (kV doc pm : Value) (an : Option Addr) (cdv ct u v : Value), bindArgs (PySem.W.fnOf x x (defArgs st) (defBody st) (defScope st) .none kV doc pm an cdv ct) ⟨[u, v], []⟩ = pure [(y, u), (z, v)]) :
    ∀ (kV doc pm : Value) (an : Option Addr) (cdv ct : Value) (us : List Value), us.length = [y, z].length → bindArgs (PySem.W.fnOf x x (defArgs st) (defBody st) (defScope st) .none kV doc pm an cdv ct) ⟨us, []⟩ = pure ([y, z].zip us) :=
  fun kV doc pm an cdv ct us hl => match us, hl with | [u, v], _ => h kV doc pm an cdv ct u v
theorem b3 {x : Str} {st : Stmt} {y z t : Str} (h : ∀ (kV doc pm : Value) (an : Option Addr) (cdv ct u v r : Value), bindArgs (PySem.W.fnOf x x (defArgs st) (defBody st) (defScope st) .none kV doc pm an cdv ct) ⟨[u, v, r], []⟩ = pure [(y, u), (z, v), (t, r)]) :
    ∀ (kV doc pm : Value) (an : Option Addr) (cdv ct : Value) (us : List Value), us.length = [y, z, t].length → bindArgs (PySem.W.fnOf x x (defArgs st) (defBody st) (defScope st) .none kV doc pm an cdv ct) ⟨us, []⟩ = pure ([y, z, t].zip us) :=
  fun kV doc pm an cdv ct us hl => match us, hl with | [u, v, r], _ => h kV doc pm an cdv ct u v r
theorem all_mk {l : PySem.W.OpenLaw} {w : World} {h : Heap} {fa f : Addr} (X : K.In h) (G : h.Ns mainGlobals mg) (hfa : mg "law" = some (.ref fa))
    {od an : Option Addr} {sl : Array (Option Value)} {oc kV dc pm cd ct : Value} {u : Tok}
    (a : PySem.W.nsIn K mainGlobals "law" = some (some (.ref f))) (lk : K.lookup f = some ⟨oc, od, .func (PySem.W.fnOf "law" "law" (defArgs sLaw) (defBody sLaw) (defScope sLaw) .none kV dc pm an cd ct), sl⟩) (c : PySem.W.codeIn K cd "law" = true) (k : PySem.W.keepIn K (.ref f) = true)
    (d1 : Df K mg "is_number" sNum ["value", "least", "most"]) (d2 : Df K mg "is_between" sBet ["value", "low", "high"]) (d3 : Df K mg "is_shape" sIsS ["candidate"]) (d4 : Df K mg "need_shape" sNeed ["value"]) (d5 : Df K mg "keys_of" sKeys ["shape"])
    (d6 : Df K mg "is_there" sThere ["shape", "key"]) (d7 : Df K mg "left_up" sLup ["part"]) (d8 : Df K mg "right_up" sRup ["part"]) (d9 : Df K mg "turned" sTurned ["shape", "key"]) (d10 : Df K mg "rotated" sRot ["shape", "key"])
    (d11 : Df K mg "near" sNear ["shape"]) (d12 : Df K mg "ways_from" sWays ["shape"]) (d13 : Df K mg "need_same" sSame ["one", "other"]) (d14 : Df K mg "distance" sDist ["one", "other"]) (d15 : Df K mg "first_turns" sFirst ["one", "other"])
    (d16 : Df K mg "_law_draw" sDraw ["_law_script", "_law_town", "_law_many"]) (d17 : Df K mg "_law_some_keys" sSome ["_law_script", "_law_town", "_law_most"]) (d18 : Df K mg "_law_shape" sShape ["_law_script", "_law_town", "_law_keys_here"])
    (d19 : Df K mg "_law_turn" sTurn ["_law_shape_here", "_law_key"]) (d20 : Df K mg "_law_first" sLfirst ["_law_one", "_law_other", "_law_keys_here"])
    (zM : PySem.W.nsIn K mainGlobals "MOST" = some (some (.int 6 u))) (zl : PySem.W.nsIn K mainGlobals "len" = some none) (zi : PySem.W.nsIn K mainGlobals "isinstance" = some none) (zI : PySem.W.nsIn K mainGlobals "int" = some none)
    (zB : PySem.W.nsIn K mainGlobals "bool" = some none) (zT : PySem.W.nsIn K mainGlobals "tuple" = some none) (zr : PySem.W.nsIn K mainGlobals "range" = some none) :
    ∃ fd : FuncData, (∀ (s : Shared) (v : Value), BindsTo s fd ⟨[v], []⟩ [("_law_script", v)]) ∧ ∀ base : Heap, K.In base → base.Ns mainGlobals mg → FnOk l.prog w K mg base CX0 12 fa fd ["_law_script"] (spLaw K) := by
  have e := hfa.symm.trans (PySem.W.mg_of X G a)
  cases e
  have F := fun_mk (st := sLaw) lk c k
  have ml := PySem.W.mg_none_of X G zl
  have mi := PySem.W.mg_none_of X G zi
  have mT := PySem.W.mg_none_of X G zT
  have mM := PySem.W.mg_of X G zM
  refine ⟨PySem.W.fnOf "law" "law" (defArgs sLaw) (defBody sLaw) (defScope sLaw) .none kV dc pm an cd ct, fun s v => .of_eq rfl, fun base _ _ => ?_⟩
  have c1 := ok_num (P := l.prog) (w := w) (base := base) d1 mi (PySem.W.mg_none_of X G zI) (PySem.W.mg_none_of X G zB)
  have c2 := ok_bet d2 c1 mi mT ml 6
  have c3 := ok_isS d3 c2 mM
  have c4 := ok_need d4 c3
  have c5 := ok_keys (P := l.prog) (w := w) (base := base) d5 7
  have c6 := ok_there d6 (c1.mono (by decide)) c5 mM
  have c7 := ok_lup (P := l.prog) (w := w) (base := base) d7
  have c8 := ok_rup (P := l.prog) (w := w) (base := base) d8
  have c9 := ok_turned d9 c7 c8 6
  have c10 := ok_rot d10 c4 (c6.mono (by decide)) (c9.mono (by decide))
  have c11 := ok_near d11 c5 c9
  have c12 := ok_ways d12 c11
  have c13 := ok_same d13 c4 (c5.mono (by decide))
  have c14 := ok_dist d14 c13 (c12.mono (by decide))
  have c15 := ok_first d15 c13 (c12.mono (by decide)) (c11.mono (by decide))
  have c16 := ok_draw (P := l.prog) (w := w) (base := base) d16 ml
  have c17 := ok_some d17 c16 (PySem.W.mg_none_of X G zr)
  have c18 := ok_shape d18 c16 ml 6
  have c19 := ok_turn (P := l.prog) (w := w) (base := base) d19 6
  have c20 := ok_lfirst d20 c19
  exact ok_law F (c17.mono (by decide)) (c18.mono (by decide)) (c20.mono (by decide)) c14 c15 (c10.mono (by decide)) ml
end
theorem walk {l : PySem.W.OpenLaw} {q : Program} {loose : List Str} {XP : (Str → Option Value) → Heap → Prop} {YP : World → Heap → Prop} {d : DefRec} {K : Params → PySem.W.Frag} (hn : l.most = some 63) (hdf : d.params.defaults = [])
    (hY : ∀ (w : World) (h : Heap), YP w h → (K w.params).In h)
    (F : ∀ (w : World) (mg : Str → Option Value) (fa : Addr) (h : Heap), (K w.params).In h → h.Ns mainGlobals mg → mg d.name = some (.ref fa) →
      ∃ fd : FuncData, (∀ (s : Shared) (u : Value), BindsTo s fd ⟨[u], []⟩ [("_law_script", u)]) ∧ ∀ base : Heap, (K w.params).In base → base.Ns mainGlobals mg → FnOk l.prog w (K w.params) mg base CX0 12 fa fd ["_law_script"] (spLaw (K w.params))) :
    PySem.W.WalkO q loose XP YP l.row.toRowW d [] (fun f vs => PySem.call f vs) :=
  L2.walk_of (n := 63) (k := 12) (x := "_law_script") (CX := fun _ => CX0) (sp := fun w => spLaw (K w.params)) hn (by decide) hdf ⟨rfl, by decide, by decide⟩ hY F (fun _ _ a ns hl _ hS => ⟨a, ns, rfl, hS, fun _ => rfl⟩) fun _ _ _ _ _ z => z
end TT


/-! KEnd -/
open PySem PySem.W PyProof.Rows
set_option maxRecDepth 100000 in
set_option maxHeartbeats 0 in
theorem PySem.Challenge.cw_turnedtrees_k03_whole_distances_holds : PySem.Challenge.rw_turnedtrees_k03_whole_distances.Holds := by
  w_on; o_law; k_head; (case hw => w_witness2)
  k_fill
  refine TT.walk (l := PySem.Challenge.rw_turnedtrees_k03_whole_distances) rfl rfl (fun w h Y => PySem.W.kIn_of Y) ?F
  case F =>
    intro w mg fa h KX G hmg
    refine' TT.all_mk KX G hmg ?a ?lk ?c ?k ?d1 ?d2 ?d3 ?d4 ?d5 ?d6 ?d7 ?d8 ?d9 ?d10 ?d11 ?d12 ?d13 ?d14 ?d15 ?d16 ?d17 ?d18 ?d19 ?d20 ?zM ?zl ?zi ?zI ?zB ?zT ?zr
    (case a => k_is); (case lk => k_is); (case c => k_is); (case k => k_is)
    (case d1 => refine' TT.df_mk KX G ?a ?l ?c ?k (TT.b3 fun _ _ _ _ _ _ _ _ _ => rfl); (case a => k_is); (case l => k_is); (case c => k_is); (case k => k_is))
    (case d2 => refine' TT.df_mk KX G ?a ?l ?c ?k (TT.b3 fun _ _ _ _ _ _ _ _ _ => rfl); (case a => k_is); (case l => k_is); (case c => k_is); (case k => k_is))
    (case d3 => refine' TT.df_mk KX G ?a ?l ?c ?k (TT.b1 fun _ _ _ _ _ _ _ => rfl); (case a => k_is); (case l => k_is); (case c => k_is); (case k => k_is))
    (case d4 => refine' TT.df_mk KX G ?a ?l ?c ?k (TT.b1 fun _ _ _ _ _ _ _ => rfl); (case a => k_is); (case l => k_is); (case c => k_is); (case k => k_is))
    (case d5 => refine' TT.df_mk KX G ?a ?l ?c ?k (TT.b1 fun _ _ _ _ _ _ _ => rfl); (case a => k_is); (case l => k_is); (case c => k_is); (case k => k_is))
    (case d6 => refine' TT.df_mk KX G ?a ?l ?c ?k (TT.b2 fun _ _ _ _ _ _ _ _ => rfl); (case a => k_is); (case l => k_is); (case c => k_is); (case k => k_is))
    (case d7 => refine' TT.df_mk KX G ?a ?l ?c ?k (TT.b1 fun _ _ _ _ _ _ _ => rfl); (case a => k_is); (case l => k_is); (case c => k_is); (case k => k_is))
    (case d8 => refine' TT.df_mk KX G ?a ?l ?c ?k (TT.b1 fun _ _ _ _ _ _ _ => rfl); (case a => k_is); (case l => k_is); (case c => k_is); (case k => k_is))
    (case d9 => refine' TT.df_mk KX G ?a ?l ?c ?k (TT.b2 fun _ _ _ _ _ _ _ _ => rfl); (case a => k_is); (case l => k_is); (case c => k_is); (case k => k_is))
    (case d10 => refine' TT.df_mk KX G ?a ?l ?c ?k (TT.b2 fun _ _ _ _ _ _ _ _ => rfl); (case a => k_is); (case l => k_is); (case c => k_is); (case k => k_is))
    (case d11 => refine' TT.df_mk KX G ?a ?l ?c ?k (TT.b1 fun _ _ _ _ _ _ _ => rfl); (case a => k_is); (case l => k_is); (case c => k_is); (case k => k_is))
    (case d12 => refine' TT.df_mk KX G ?a ?l ?c ?k (TT.b1 fun _ _ _ _ _ _ _ => rfl); (case a => k_is); (case l => k_is); (case c => k_is); (case k => k_is))
    (case d13 => refine' TT.df_mk KX G ?a ?l ?c ?k (TT.b2 fun _ _ _ _ _ _ _ _ => rfl); (case a => k_is); (case l => k_is); (case c => k_is); (case k => k_is))
    (case d14 => refine' TT.df_mk KX G ?a ?l ?c ?k (TT.b2 fun _ _ _ _ _ _ _ _ => rfl); (case a => k_is); (case l => k_is); (case c => k_is); (case k => k_is))
    (case d15 => refine' TT.df_mk KX G ?a ?l ?c ?k (TT.b2 fun _ _ _ _ _ _ _ _ => rfl); (case a => k_is); (case l => k_is); (case c => k_is); (case k => k_is))
    (case d16 => refine' TT.df_mk KX G ?a ?l ?c ?k (TT.b3 fun _ _ _ _ _ _ _ _ _ => rfl); (case a => k_is); (case l => k_is); (case c => k_is); (case k => k_is))
    (case d17 => refine' TT.df_mk KX G ?a ?l ?c ?k (TT.b3 fun _ _ _ _ _ _ _ _ _ => rfl); (case a => k_is); (case l => k_is); (case c => k_is); (case k => k_is))
    (case d18 => refine' TT.df_mk KX G ?a ?l ?c ?k (TT.b3 fun _ _ _ _ _ _ _ _ _ => rfl); (case a => k_is); (case l => k_is); (case c => k_is); (case k => k_is))
    (case d19 => refine' TT.df_mk KX G ?a ?l ?c ?k (TT.b2 fun _ _ _ _ _ _ _ _ => rfl); (case a => k_is); (case l => k_is); (case c => k_is); (case k => k_is))
    (case d20 => refine' TT.df_mk KX G ?a ?l ?c ?k (TT.b3 fun _ _ _ _ _ _ _ _ _ => rfl); (case a => k_is); (case l => k_is); (case c => k_is); (case k => k_is))
    (case zM => k_is); (case zl => k_is); (case zi => k_is); (case zI => k_is); (case zB => k_is); (case zT => k_is); (case zr => k_is)
