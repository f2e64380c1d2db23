import PyProof.Rows.All
import Wide.All
import OpenK.AllK
import Wide.FinOn
import HandS.Comp
import HandS.Exc
import HandS.ExcOwn
import KE.GoesRaise
import KE.KExcSuper
import KE.KExcIs
import HandS.Words
import HandS.ForMost
import HandS.TryOnly
import HandS.WordsExc
import HandS.IsInst
import HandS.Strs
import HandS.OwnEq
import HandS.Codes
import HandS.Star
import HandS.Lambda
import HandS.ExcIs
import HandS.ExcField
import KE.KIsAll
import KE.RegKSuper
import KE.RegKIsAll
import PySem.Challenge.RW_sureplay_k79_programs_as_whole_numbers
set_option Elab.async false
set_option linter.all false
set_option maxRecDepth 100000
set_option maxHeartbeats 4000000
/-! The plain law: what read_program computes, with no program in sight. -/
namespace K79
/-- a compiled game; an instruction is the place of its name and its argument -/
structure Game where
  sizes : List Int
  moves : List (Int × Int)
  rounds : List (List (Nat × Int))
/-- a number with its range -/
abbrev Row := Int × Int × Int
def codeRows (c : List (Nat × Int)) : List Row := ((c.length : Int), 0, 65535) :: c.flatMap fun p => [((p.1 : Int), 0, 15), (p.2, 0, 65535)]
def sizeRows (l : List Int) : List Row := ((l.length : Int), 0, 12) :: l.map fun s => (s, 1, 65535)
def moveRows (l : List (Int × Int)) : List Row := ((l.length : Int), 0, 24) :: l.flatMap fun m => [(m.1, 1, 2), (m.2, 1, 8)]
def roundRows (l : List (List (Nat × Int))) : List Row := ((l.length : Int), 0, 8) :: l.flatMap codeRows
def rows (g : Game) : List Row := sizeRows g.sizes ++ (moveRows g.moves ++ roundRows g.rounds)
def nums (g : Game) : List Int := (rows g).map (·.1)
structure Good (g : Game) : Prop where
  sl : g.sizes.length ≤ 12
  s : ∀ x ∈ g.sizes, 1 ≤ x ∧ x ≤ 65535
  ml : g.moves.length ≤ 24
  m : ∀ x ∈ g.moves, (1 ≤ x.1 ∧ x.1 ≤ 2) ∧ (1 ≤ x.2 ∧ x.2 ≤ 8)
  rl : g.rounds.length ≤ 8
  r : ∀ c ∈ g.rounds, c.length ≤ 10 ∧ ∀ x ∈ c, x.1 < 16 ∧ 0 ≤ x.2 ∧ x.2 ≤ 65535
abbrev Ans (α : Type) := Except Nat (α × Nat)
abbrev Rd (α : Type) := List Int → Nat → Ans α
def andThen {α β : Type} (r : Ans α) (k : α → Nat → Except Nat β) : Except Nat β := match r with
  | .error e => .error e
  | .ok (x, i) => k x i
def take1 (lo hi : Int) : Rd Int := fun ns i => match ns[i]? with
  | some x => if lo ≤ x ∧ x ≤ hi then .ok (x, i + 1) else .error i
  | none => .error i
def rep {α : Type} (p : Rd α) : Nat → Rd (List α)
  | 0 => fun _ i => .ok ([], i)
  | n + 1 => fun ns i => andThen (p ns i) fun x i1 => andThen (rep p n ns i1) fun xs i2 => .ok (x :: xs, i2)
def pairP : Rd (Int × Int) := fun ns i => andThen (take1 1 2 ns i) fun x i1 => andThen (take1 1 8 ns i1) fun y i2 => .ok ((x, y), i2)
def instrP : Rd (Nat × Int) := fun ns i => andThen (take1 0 15 ns i) fun x i1 => andThen (take1 0 65535 ns i1) fun y i2 => .ok ((x.toNat, y), i2)
def codeP : Rd (List (Nat × Int)) := fun ns i => andThen (take1 0 65535 ns i) fun n i1 => rep instrP n.toNat ns i1
def sizesP : Rd (List Int) := fun ns i => andThen (take1 0 12 ns i) fun n i1 => rep (take1 1 65535) n.toNat ns i1
def movesP : Rd (List (Int × Int)) := fun ns i => andThen (take1 0 24 ns i) fun n i1 => rep pairP n.toNat ns i1
def roundsP : Rd (List (List (Nat × Int))) := fun ns i => andThen (take1 0 8 ns i) fun n i1 => rep codeP n.toNat ns i1
def readP (ns : List Int) : Except Nat Game :=
  andThen (sizesP ns 0) fun s i1 => andThen (movesP ns i1) fun m i2 => andThen (roundsP ns i2) fun r i3 => if i3 < ns.length then .error i3 else .ok ⟨s, m, r⟩
/-- p reads v off the rows rs, and stops at the first number that isn't as it should be -/
def Fol {α : Type} (p : Rd α) (rs : List Row) (v : α) : Prop := ∀ (ns : List Int) (i : Nat),
  ((∀ t r, rs[t]? = some r → ns[i + t]? = some r.1) → p ns i = .ok (v, i + rs.length)) ∧
  ∀ j r, rs[j]? = some r → (∀ t r', t < j → rs[t]? = some r' → ns[i + t]? = some r'.1) → (∀ x, ns[i + j]? = some x → ¬ (r.2.1 ≤ x ∧ x ≤ r.2.2)) → p ns i = .error (i + j)
theorem fol_take {n lo hi : Int} (h1 : lo ≤ n) (h2 : n ≤ hi) : Fol (take1 lo hi) [(n, lo, hi)] n := by
  intro ns i
  refine ⟨fun h => ?_, fun j r hr _ hx => ?_⟩
  · have e := h 0 _ rfl
    rw [Nat.add_zero] at e
    unfold take1
    rw [e]
    exact if_pos ⟨h1, h2⟩
  · cases j with
    | succ j => simp at hr
    | zero =>
      have er : r = (n, lo, hi) := by simpa using hr.symm
      subst er
      rw [Nat.add_zero] at hx ⊢
      unfold take1
      cases e : ns[i]? with
      | none => rfl
      | some x => exact if_neg (hx x e)
theorem fol_bind {α β : Type} {p : Rd α} {f : α → Rd β} {r1 r2 : List Row} {v : α} {u : β} (h1 : Fol p r1 v) (h2 : Fol (f v) r2 u) :
    Fol (fun ns i => andThen (p ns i) fun x i1 => f x ns i1) (r1 ++ r2) u := by
  intro ns i
  have key : (∀ t r, r1[t]? = some r → ns[i + t]? = some r.1) → andThen (p ns i) (fun x i1 => f x ns i1) = f v ns (i + r1.length) := fun h => by
    rw [(h1 ns i).1 h]
    rfl
  refine ⟨fun h => ?_, fun j r hr hb hx => ?_⟩
  · have ha : ∀ t r, r1[t]? = some r → ns[i + t]? = some r.1 := fun t r e => h t r (by
      rw [List.getElem?_append_left (List.getElem?_eq_some_iff.mp e).1]
      exact e)
    show andThen (p ns i) (fun x i1 => f x ns i1) = _
    rw [key ha, (h2 ns (i + r1.length)).1 fun t r e => ?_, List.length_append, Nat.add_assoc]
    have := h (r1.length + t) r (by
      rw [List.getElem?_append_right (Nat.le_add_right _ _), Nat.add_sub_cancel_left]
      exact e)
    rw [Nat.add_assoc]
    exact this
  · by_cases hj : j < r1.length
    · have hr1 : r1[j]? = some r := by
        rw [List.getElem?_append_left hj] at hr
        exact hr
      show andThen (p ns i) (fun x i1 => f x ns i1) = _
      rw [(h1 ns i).2 j r hr1 (fun t r' ht e => hb t r' ht (by
        rw [List.getElem?_append_left (List.getElem?_eq_some_iff.mp e).1]
        exact e)) hx]
      rfl
    · have hj' : r1.length ≤ j := Nat.le_of_not_lt hj
      have ha : ∀ t r, r1[t]? = some r → ns[i + t]? = some r.1 := fun t r e => by
        have hlt := (List.getElem?_eq_some_iff.mp e).1
        exact hb t r (Nat.lt_of_lt_of_le hlt hj') (by
          rw [List.getElem?_append_left hlt]
          exact e)
      have hr2 : r2[j - r1.length]? = some r := by
        rw [List.getElem?_append_right hj'] at hr
        exact hr
      show andThen (p ns i) (fun x i1 => f x ns i1) = _
      have ej : i + r1.length + (j - r1.length) = i + j := by omega
      rw [key ha, (h2 ns (i + r1.length)).2 (j - r1.length) r hr2 (fun t r' ht e => ?_) (fun x e => hx x (by rw [← ej]; exact e)), ej]
      have := hb (r1.length + t) r' (by omega) (by
        rw [List.getElem?_append_right (Nat.le_add_right _ _), Nat.add_sub_cancel_left]
        exact e)
      rw [Nat.add_assoc]
      exact this
theorem fol_ret {α : Type} {v : α} : Fol (fun _ i => .ok (v, i)) [] v := fun ns i => ⟨fun _ => rfl, fun j r hr => by simp at hr⟩
theorem fol_map {α β : Type} {p : Rd α} {rs : List Row} {v : α} (f : α → β) (h : Fol p rs v) : Fol (fun ns i => andThen (p ns i) fun x i1 => .ok (f x, i1)) rs (f v) := by
  have := fol_bind (f := fun x _ i => .ok (f x, i)) h fol_ret
  rw [List.append_nil] at this
  exact this
theorem fol_rep {α : Type} {p : Rd α} {g : α → List Row} : ∀ (l : List α), (∀ x ∈ l, Fol p (g x) x) → Fol (rep p l.length) (l.flatMap g) l
  | [], _ => fol_ret
  | x :: l, h => by
    rw [List.flatMap_cons]
    exact fol_bind (f := fun x ns i1 => andThen (rep p l.length ns i1) fun xs i2 => .ok (x :: xs, i2)) (h x List.mem_cons_self)
      (fol_map (fun xs => x :: xs) (fol_rep l fun y hy => h y (List.mem_cons_of_mem _ hy)))
theorem fol_count {α : Type} {p : Rd α} {g : α → List Row} {hi : Int} (l : List α) (hl : (l.length : Int) ≤ hi) (h : ∀ x ∈ l, Fol p (g x) x) :
    Fol (fun ns i => andThen (take1 0 hi ns i) fun n i1 => rep p n.toNat ns i1) (((l.length : Int), 0, hi) :: l.flatMap g) l := by
  have q := fol_rep l h
  exact fol_bind (f := fun n => rep p n.toNat) (r1 := [((l.length : Int), 0, hi)]) (fol_take (Int.natCast_nonneg _) hl) (by rw [Int.toNat_natCast]; exact q)
theorem fol_pair {x y : Int} (h : (1 ≤ x ∧ x ≤ 2) ∧ (1 ≤ y ∧ y ≤ 8)) : Fol pairP [(x, 1, 2), (y, 1, 8)] (x, y) :=
  fol_bind (r1 := [(x, 1, 2)]) (f := fun x ns i1 => andThen (take1 1 8 ns i1) fun y i2 => .ok ((x, y), i2)) (fol_take h.1.1 h.1.2) (fol_map (fun y => (x, y)) (fol_take h.2.1 h.2.2))
theorem fol_instr {k : Nat} {y : Int} (h : k < 16 ∧ 0 ≤ y ∧ y ≤ 65535) : Fol instrP [((k : Int), 0, 15), (y, 0, 65535)] (k, y) := by
  have q := fol_map (fun y => (((k : Int)).toNat, y)) (fol_take h.2.1 h.2.2)
  have z := fol_bind (r1 := [((k : Int), 0, 15)]) (f := fun x ns i1 => andThen (take1 0 65535 ns i1) fun y i2 => .ok ((x.toNat, y), i2)) (fol_take (Int.natCast_nonneg _) (by omega)) q
  rw [Int.toNat_natCast] at z
  exact z
theorem fol_code {c : List (Nat × Int)} (h : c.length ≤ 10 ∧ ∀ x ∈ c, x.1 < 16 ∧ 0 ≤ x.2 ∧ x.2 ≤ 65535) : Fol codeP (codeRows c) c :=
  fol_count c (by omega) fun x hx => fol_instr (h.2 x hx)
theorem flat_one {α β : Type} (f : α → β) : ∀ l : List α, l.flatMap (fun x => [f x]) = l.map f
  | [] => rfl
  | x :: l => by rw [List.flatMap_cons, List.map_cons, flat_one f l]; rfl
theorem fol_sizes {l : List Int} (hl : l.length ≤ 12) (h : ∀ x ∈ l, 1 ≤ x ∧ x ≤ 65535) : Fol sizesP (sizeRows l) l := by
  have q := fol_count (p := take1 1 65535) (g := fun s => [((s : Int), (1 : Int), (65535 : Int))]) (hi := 12) l (by omega) fun x hx => fol_take (h x hx).1 (h x hx).2
  rw [flat_one] at q
  exact q
theorem fol_moves {l : List (Int × Int)} (hl : l.length ≤ 24) (h : ∀ x ∈ l, (1 ≤ x.1 ∧ x.1 ≤ 2) ∧ (1 ≤ x.2 ∧ x.2 ≤ 8)) : Fol movesP (moveRows l) l :=
  fol_count l (by omega) fun x hx => fol_pair (h x hx)
theorem fol_rounds {l : List (List (Nat × Int))} (hl : l.length ≤ 8) (h : ∀ c ∈ l, c.length ≤ 10 ∧ ∀ x ∈ c, x.1 < 16 ∧ 0 ≤ x.2 ∧ x.2 ≤ 65535) : Fol roundsP (roundRows l) l :=
  fol_count l (by omega) fun c hc => fol_code (h c hc)
/-- all three parts -/
def bodyP : Rd Game := fun ns i => andThen (sizesP ns i) fun s i1 => andThen (movesP ns i1) fun m i2 => andThen (roundsP ns i2) fun r i3 => .ok (⟨s, m, r⟩, i3)
theorem fol_body {g : Game} (G : Good g) : Fol bodyP (rows g) g :=
  fol_bind (p := sizesP) (f := fun s ns i1 => andThen (movesP ns i1) fun m i2 => andThen (roundsP ns i2) fun r i3 => .ok ((⟨s, m, r⟩ : Game), i3)) (fol_sizes G.sl G.s)
    (fol_bind (p := movesP) (f := fun m ns i2 => andThen (roundsP ns i2) fun r i3 => .ok ((⟨g.sizes, m, r⟩ : Game), i3)) (fol_moves G.ml G.m) (fol_map (fun r => (⟨g.sizes, g.moves, r⟩ : Game)) (fol_rounds G.rl G.r)))
theorem readP_body (ns : List Int) : readP ns = andThen (bodyP ns 0) fun g i => if i < ns.length then .error i else .ok g := by
  unfold readP bodyP
  cases h1 : sizesP ns 0 with
  | error e => rfl
  | ok p =>
    obtain ⟨s, i1⟩ := p
    show andThen (movesP ns i1) _ = andThen (andThen (movesP ns i1) _) _
    cases h2 : movesP ns i1 with
    | error e => rfl
    | ok p =>
      obtain ⟨m, i2⟩ := p
      show andThen (roundsP ns i2) _ = andThen (andThen (roundsP ns i2) _) _
      cases h3 : roundsP ns i2 with
      | error e => rfl
      | ok p => rfl
theorem nums_at {g : Game} {t : Nat} {r : Row} (h : (rows g)[t]? = some r) : (nums g)[t]? = some r.1 := by
  unfold nums
  rw [List.getElem?_map, h]
  rfl
theorem nums_len (g : Game) : (nums g).length = (rows g).length := List.length_map _
theorem read_ok {g : Game} (G : Good g) : readP (nums g) = .ok g := by
  rw [readP_body, ((fol_body G) (nums g) 0).1 fun t r h => by rw [Nat.zero_add]; exact nums_at h, Nat.zero_add]
  show (if (rows g).length < (nums g).length then _ else _) = _
  rw [nums_len, if_neg (Nat.lt_irrefl _)]
theorem row_at {g : Game} {k : Nat} (h : k < (nums g).length) : ∃ r, (rows g)[k]? = some r := by
  rw [nums_len] at h
  exact ⟨_, List.getElem?_eq_getElem h⟩
theorem read_cut {g : Game} (G : Good g) {k : Nat} (h : k < (nums g).length) : readP ((nums g).take k) = .error k := by
  obtain ⟨r, hr⟩ := row_at h
  rw [readP_body, ((fol_body G) ((nums g).take k) 0).2 k r hr (fun t r' ht e => ?_) (fun x hx => ?_), Nat.zero_add]
  · rfl
  · rw [Nat.zero_add, List.getElem?_take_of_lt ht]
    exact nums_at e
  · rw [Nat.zero_add, List.getElem?_take_eq_none (Nat.le_refl _)] at hx
    cases hx
theorem read_more {g : Game} (G : Good g) (x : Int) : readP (nums g ++ [x]) = .error (nums g).length := by
  rw [readP_body, ((fol_body G) (nums g ++ [x]) 0).1 fun t r h => ?_, Nat.zero_add]
  · show (if (rows g).length < (nums g ++ [x]).length then _ else _) = _
    rw [List.length_append, nums_len, if_pos (show (rows g).length < (rows g).length + [x].length from Nat.lt_succ_self _)]
  · have h2 := nums_at h
    rw [Nat.zero_add, List.getElem?_append_left (List.getElem?_eq_some_iff.mp h2).1]
    exact h2
theorem read_bad {g : Game} (G : Good g) {k : Nat} {r : Row} {x : Int} (hr : (rows g)[k]? = some r) (hx : ¬ (r.2.1 ≤ x ∧ x ≤ r.2.2)) :
    readP ((nums g).take k ++ [x] ++ (nums g).drop (k + 1)) = .error k := by
  have hk : k < (nums g).length := by rw [nums_len]; exact (List.getElem?_eq_some_iff.mp hr).1
  have hl : ((nums g).take k).length = k := by rw [List.length_take]; omega
  rw [List.append_assoc, readP_body, ((fol_body G) ((nums g).take k ++ ([x] ++ (nums g).drop (k + 1))) 0).2 k r hr (fun t r' ht e => ?_) (fun y hy => ?_), Nat.zero_add]
  · rfl
  · rw [Nat.zero_add, List.getElem?_append_left (by rw [hl]; exact ht), List.getElem?_take_of_lt ht]
    exact nums_at e
  · rw [Nat.zero_add, List.getElem?_append_right (by rw [hl]; exact Nat.le_refl _), hl, Nat.sub_self] at hy
    have e : y = x := by simpa using hy.symm
    rw [e]
    exact hx
/-! what the law's wrong numbers are -/
theorem rg {n lo hi : Int} (h1 : 0 ≤ lo) (h2 : hi ≤ 65535) (h3 : lo ≤ hi) (h4 : 0 ≤ n) (h5 : n ≤ 65535) : 0 ≤ ((n, lo, hi) : Row).2.1 ∧ ((n, lo, hi) : Row).2.2 ≤ 65535 ∧ ((n, lo, hi) : Row).2.1 ≤ ((n, lo, hi) : Row).2.2 ∧ 0 ≤ ((n, lo, hi) : Row).1 ∧ ((n, lo, hi) : Row).1 ≤ 65535 := ⟨h1, h2, h3, h4, h5⟩
theorem rows_range {g : Game} (G : Good g) : ∀ r ∈ rows g, 0 ≤ r.2.1 ∧ r.2.2 ≤ 65535 ∧ r.2.1 ≤ r.2.2 ∧ 0 ≤ r.1 ∧ r.1 ≤ 65535 := by
  have hc : ∀ c ∈ g.rounds, ∀ r ∈ codeRows c, 0 ≤ r.2.1 ∧ r.2.2 ≤ 65535 ∧ r.2.1 ≤ r.2.2 ∧ 0 ≤ r.1 ∧ r.1 ≤ 65535 := fun c hc r hr => by
    have q := G.r c hc
    rcases List.mem_cons.mp hr with e | hr
    · subst e
      exact rg (by decide) (by decide) (by decide) (Int.natCast_nonneg _) (by show (c.length : Int) ≤ 65535; omega)
    · obtain ⟨x, hx, hr⟩ := List.mem_flatMap.mp hr
      have h3 := q.2 x hx
      simp only [List.mem_cons, List.not_mem_nil, or_false] at hr
      rcases hr with e | e
      · subst e
        exact rg (by decide) (by decide) (by decide) (Int.natCast_nonneg _) (by show (x.1 : Int) ≤ 65535; omega)
      · subst e
        exact rg (by decide) (by decide) (by decide) (h3.2.1) (h3.2.2)
  intro r hr
  rcases List.mem_append.mp hr with hr | hr
  · rcases List.mem_cons.mp hr with e | hr
    · subst e
      have := G.sl
      exact rg (by decide) (by decide) (by decide) (Int.natCast_nonneg _) (by show (g.sizes.length : Int) ≤ 65535; omega)
    · obtain ⟨x, hx, e⟩ := List.mem_map.mp hr
      subst e
      have := G.s x hx
      exact rg (by decide) (by decide) (by decide) (by show 0 ≤ x; omega) (this.2)
  rcases List.mem_append.mp hr with hr | hr
  · rcases List.mem_cons.mp hr with e | hr
    · subst e
      have := G.ml
      exact rg (by decide) (by decide) (by decide) (Int.natCast_nonneg _) (by show (g.moves.length : Int) ≤ 65535; omega)
    · obtain ⟨x, hx, hr⟩ := List.mem_flatMap.mp hr
      have h3 := G.m x hx
      simp only [List.mem_cons, List.not_mem_nil, or_false] at hr
      rcases hr with e | e
      · subst e
        exact rg (by decide) (by decide) (by decide) (by show 0 ≤ x.1; omega) (by show x.1 ≤ 65535; omega)
      · subst e
        exact rg (by decide) (by decide) (by decide) (by show 0 ≤ x.2; omega) (by show x.2 ≤ 65535; omega)
  · rcases List.mem_cons.mp hr with e | hr
    · subst e
      have := G.rl
      exact rg (by decide) (by decide) (by decide) (Int.natCast_nonneg _) (by show (g.rounds.length : Int) ≤ 65535; omega)
    · obtain ⟨c, hc', hr⟩ := List.mem_flatMap.mp hr
      exact hc c hc' r hr
theorem flat_le {α β : Type} {f : α → List β} {n : Nat} : ∀ l : List α, (∀ x ∈ l, (f x).length ≤ n) → (l.flatMap f).length ≤ l.length * n
  | [], _ => by simp
  | x :: l, h => by
    have h1 := h x List.mem_cons_self
    have h2 := flat_le l fun y hy => h y (List.mem_cons_of_mem _ hy)
    rw [List.flatMap_cons, List.length_append, List.length_cons, Nat.add_mul]
    omega
theorem rows_len {g : Game} (G : Good g) : (rows g).length ≤ 300 := by
  have h1 := G.sl
  have h2 := flat_le (f := fun m : Int × Int => [((m.1, 1, 2) : Row), (m.2, 1, 8)]) (n := 2) g.moves fun _ _ => Nat.le_refl _
  have h3 := flat_le (f := codeRows) (n := 21) g.rounds fun c hc => by
    have q := (G.r c hc).1
    have z := flat_le (f := fun p : Nat × Int => [(((p.1 : Int), 0, 15) : Row), (p.2, 0, 65535)]) (n := 2) c fun _ _ => Nat.le_refl _
    unfold codeRows
    rw [List.length_cons]
    omega
  have h4 := G.ml
  have h5 := G.rl
  have e1 : (sizeRows g.sizes).length = g.sizes.length + 1 := by unfold sizeRows; rw [List.length_cons, List.length_map]
  have e2 : (moveRows g.moves).length ≤ g.moves.length * 2 + 1 := by unfold moveRows; rw [List.length_cons]; omega
  have e3 : (roundRows g.rounds).length ≤ g.rounds.length * 21 + 1 := by unfold roundRows; rw [List.length_cons]; omega
  unfold rows
  rw [List.length_append, List.length_append]
  omega
theorem rows_pos (g : Game) : 0 < (rows g).length := by
  unfold rows sizeRows
  rw [List.length_append, List.length_cons]
  omega
end K79
/-! A list comprehension whose element may let an exception out (out of a call). -/
namespace K79
open PySem PySem.Spec PyProof.Rows L2
/-- the block's context: a callee's exception is told as it comes -/
abbrev blkX (X : Cx) (E : XK) (sa : Shared) (Ha : Hp) (scope : Scope) (ce : Env) (fp : List Addr) : Cx :=
  (X.blk sa Ha scope ce fp).wish fun u s' => ∃ (pb : List (Addr × Obj)) (tb : L2.St) (Hb : Hp) (sb : Shared), Inv (X.blk sa Ha scope ce fp) pb tb Hb sb ∧ L2.CX X.prog X.w X.stack Hb sb E u s'
theorem passB {X : Cx} {E : XK} {sa : Shared} {Ha : Hp} {scope : Scope} {ce : Env} {fp : List Addr} : Passes (L2.CX X.prog X.w) (blkX X E sa Ha scope ce fp) E :=
  fun pins σ H s e s' I c => ⟨pins, σ, H, s, I.unwish, c⟩
theorem hide1 {h : Heap} {c b : Addr} {o : Obj} (e : h.get? b = some o) (n : b ≠ c) : (PySem.W.hideAll h [c]).get? b = some o :=
  PySem.W.hideAll_get [c] e (by simpa using n)
theorem of_hide1 {h : Heap} {c b : Addr} {o : Obj} (e : (PySem.W.hideAll h [c]).get? b = some o) : h.get? b = some o ∧ b ≠ c := by
  refine ⟨PySem.W.of_hideAll [c] e, fun z => ?_⟩
  rw [PySem.W.hideAll_none [c] (by simp [z])] at e
  cases e
theorem hide1_none {h : Heap} {c b : Addr} (e : h.get? b = none) : (PySem.W.hideAll h [c]).get? b = none := by
  cases q : (PySem.W.hideAll h [c]).get? b with
  | none => rfl
  | some o =>
    rw [(of_hide1 q).1] at e
    cases e
theorem traced_but {h h' base : Heap} {e L : Addr} {Z : Obj → Prop} {fl : Value} {m : Str → Option Value} (x : HandSPX.TracedZ h base e Z fl) (hn : h.Ns L m) (hs : Heap.SameBut L h h') : HandSPX.TracedZ h' base e Z fl := by
  obtain ⟨oe, vs, T, oT, ts, he, hz, hd, h1, hnT, hTe, hT, hdT, h3⟩ := x
  obtain ⟨oL, es, ep, hoL, hdL, _⟩ := hn
  have neE : e ≠ L := fun q => by
    rw [q, hoL] at he
    cases he
    rw [hdL] at hd
    cases hd
  have neT : T ≠ L := fun q => by
    rw [q, hoL] at hT
    cases hT
    rw [hdL] at hdT
    cases hdT
  exact ⟨oe, vs, T, oT, ts, (hs.2 e neE).trans he, hz, hd, h1, hnT, hTe, (hs.2 T neT).trans hT, hdT, h3⟩
section
variable {X : Cx} {pins : List (Addr × Obj)} {σ : L2.St} {H3 : Hp} {s3 s' : Shared} {E : XK} {scope : Scope} {ce : Env} {fp : List Addr} {u : Value} {use : Option (Value → Sem Unit)} {Qf : Value → Shared → Prop} {acc : Value}
/-- a call's exception in the block: noted in the def's frame, the block let go, thrown on -/
theorem noted_blk (I3 : Inv X pins σ H3 s3) (hst : X.stack = X.env :: X.outer) (hfr : X.env.frame = some X.env.locals) (hcf : ce.frame = X.env.frame) (hcl : ce.locals = s3.heap.objs.size)
    (tk : Takes X (fun cls d _ H => E cls d H)) (hfp : ∀ b ∈ fp, FpOk X pins H3 b)
    (hx : ∃ (pb : List (Addr × Obj)) (tb : L2.St) (Hb : Hp) (sb : Shared), Inv (X.blk s3 H3 scope ce fp) pb tb Hb sb ∧ L2.CX X.prog X.w X.stack Hb sb E u s') :
    notedBy (model X.prog X.w) X.A ce (fun e s1 => compEnds (model X.prog X.w) X.A X.xe use Qf acc ce (.error e) s1) u s' := by
  obtain ⟨pb, tb, Hb, sb, Ib, a, B, H', cls, d, rfl, fl, hok, ub, na, os, ag, hE⟩ := hx
  have hfrA : X.A.frames = some (X.env :: X.outer) := by rw [I3.ok.frames, hst]
  have I7 : Inv X pins σ Hb sb := I3.call' (ch := fp) Ib.os Ib.base Ib.hok Ib.bare fun b hb => ⟨(hfp b hb).2.2.2.1, (hfp b hb).2.1, (hfp b hb).2.2.2.2.1, (hfp b hb).2.2.2.2.2⟩
  generalize hC : ce.locals = C at hcl
  have nC : Hb C = none := by
    have z : Hb ce.locals = none := Ib.free
    rw [hC] at z
    exact z
  obtain ⟨m, hnsC⟩ : ∃ m, sb.heap.Ns C m := by
    obtain ⟨m, hn, _⟩ := Ib.loc
    have hn' : sb.heap.Ns ce.locals m := hn
    rw [hC] at hn'
    exact ⟨m, hn'⟩
  have fC : FpOk X pins Hb C := I3.fpOk (Nat.le_of_eq hcl.symm) nC
  obtain ⟨f0, f1, f2, f3, f4, f5⟩ := fC
  have nst : C ∉ frs X.stack := fun z => by
    rcases List.mem_cons.mp (I3.stkSub C z) with q | q
    · exact f1 q
    · exact f2 q
  obtain ⟨oC, es, ep, hoC, hdC, hrC⟩ := id hnsC
  have BC : B.get? C = some oC := ub.keep C oC hoC nC nst
  have nC' : H' C = none := ub.free C oC hoC nC
  -- the state ahead of the call, and the ground, without the block
  have I8 : Inv X pins σ Hb { sb with heap := PySem.W.hideAll sb.heap [C] } := I7.turned (t' := sb.toks) (fun b o hb e => hide1 e hb) f0 f1 f3 f4 f5
  generalize hB2 : PySem.W.hideAll B [C] = B2
  have toB2 : ∀ b o, B.get? b = some o → b ≠ C → B2.get? b = some o := fun b o e n => by rw [← hB2]; exact hide1 e n
  have ofB2 : ∀ b o, B2.get? b = some o → B.get? b = some o ∧ b ≠ C := fun b o e => by rw [← hB2] at e; exact of_hide1 e
  have noB2 : ∀ b, B.get? b = none → B2.get? b = none := fun b e => by rw [← hB2]; exact hide1_none e
  have ok2 : HOk X.prog X.w H' B2 := fun b o e => (hok b o e).stay (fun c v hc q => toB2 c v q fun z => by
      rcases hc with hc | hc
      · rw [← hc, z, nC'] at e
        cases e
      · rw [z, nC'] at hc
        cases hc) (fun _ q => q) fun _ _ q => q
  have ub2 : UB (frs X.stack) Hb H' (PySem.W.hideAll sb.heap [C]) B2 s'.heap := {
    keep := fun b o e n hb => toB2 b o (ub.keep b o (of_hide1 e).1 n hb) (of_hide1 e).2
    slot := fun b o e hb => ub.slot b o (of_hide1 e).1 hb
    free := fun b o e n => ub.free b o (of_hide1 e).1 n
    there := fun b o e hb => by
      obtain ⟨o', q⟩ := ub.there b o (of_hide1 e).1 hb
      exact ⟨o', toB2 b o' q (of_hide1 e).2⟩
    tups := ub.tups
    frzs := ub.frzs
    tbls := ub.tbls }
  obtain ⟨g1, g2, g3, g4⟩ := id fl
  have ff2 : s'.heap.FunFrames B2 X.stack := funFrames_none g3 fun L hL => noB2 L (by
    obtain ⟨k1, _⟩ := g3.mem hL
    exact k1)
  have fl2 : HandSPX.FlyingZ B2 (X.env :: X.outer) a (Zc cls d) s'.heap := by
    refine ⟨fun b o e => g1 b o (ofB2 b o e).1, noB2 a g2, by rw [← hst]; exact ff2, ?_⟩
    obtain ⟨oe, vs, T, oT, ts, he, hz, hd, h1, hnT, r⟩ := g4
    exact ⟨oe, vs, T, oT, ts, he, hz, hd, h1, noB2 T hnT, r⟩
  -- the state without the exception
  obtain ⟨G, r1, r2⟩ := restrict s'.heap fun b => (B2.get? b).isSome || decide (b ∈ frs X.stack)
  have toG : ∀ b o, B2.get? b = some o → G.get? b = some o := fun b o e => by
    rw [r1 b (by simp [e])]
    exact g1 b o (ofB2 b o e).1
  have frG : ∀ b, b ∈ frs X.stack → G.get? b = s'.heap.get? b := fun b hb => r1 b (by simp [hb])
  have ofG : ∀ b o, G.get? b = some o → s'.heap.get? b = some o ∧ ((B2.get? b).isSome = true ∨ b ∈ frs X.stack) := fun b o e => by
    cases q : ((B2.get? b).isSome || decide (b ∈ frs X.stack)) with
    | false =>
      rw [r2 b q] at e
      cases e
    | true =>
      rw [r1 b q] at e
      exact ⟨e, by simpa [Bool.or_eq_true] using q⟩
  have gneC : ∀ b o, G.get? b = some o → b ≠ C := fun b o e z => by
    rcases (ofG b o e).2 with q | q
    · obtain ⟨o', q'⟩ := Option.isSome_iff_exists.mp q
      exact (ofB2 b o' q').2 z
    · exact nst (by rw [← z]; exact q)
  have J : Inv X pins σ H' { sb with heap := G, gens := s'.gens, drawn := s'.drawn, toks := s'.toks } := by
    refine Inv.call (s := { sb with heap := PySem.W.hideAll sb.heap [C] }) (ch := []) I8 ⟨fun b o e n hb _ => toG b o (ub2.keep b o e n hb), fun b o e n hb _ => ?_, fun b o e n _ => ub2.free b o e n, fun b o e _ => ?_, ub2.tups, ub2.frzs, ub2.tbls⟩ (ok2.kept toG) ag fun _ z => nomatch z
    · obtain ⟨sl, q⟩ := ub2.slot b o e hb
      exact ⟨sl, by rw [frG b hb]; exact q⟩
    · by_cases hb : b ∈ frs X.stack
      · obtain ⟨sl, q⟩ := ub2.slot b o e hb
        exact ⟨_, by rw [frG b hb]; exact q⟩
      · obtain ⟨o', q⟩ := ub2.there b o e hb
        exact ⟨o', toG b o' q⟩
  have nbG : ∀ b o, G.get? b = some o → b ∉ frs X.stack → B2.get? b = some o := fun b o e hb => by
    obtain ⟨e', q⟩ := ofG b o e
    rcases q with q | q
    · obtain ⟨o', q'⟩ := Option.isSome_iff_exists.mp q
      have z := g1 b o' (ofB2 b o' q').1
      rw [e'] at z
      cases z
      exact q'
    · exact absurd q hb
  -- the walk: note, let go, pass on
  show wpAny (model X.prog X.w) X.A (noteFrame (.ref a) ce) _ _ s'
  rw [noteFrame_env _ hcf]
  refine HandSPX.looks_onZ Zc.steady hfrA hfr fl2 fun h1 hh up1 => ?_
  have hns1 : h1.Ns C m := by
    obtain ⟨sl, e1⟩ := up1 C oC (g1 C oC BC) fun vs z => by rw [hdC] at z; cases z
    exact ⟨_, es, ep, e1, hdC, hrC⟩
  show CompFails _ _ _ _ _ _
  refine ⟨m, by rw [hC]; exact hns1, fun h2 m2 hn2 hs2 => ?_⟩
  rw [hC] at hn2 hs2
  obtain ⟨k1, k2, k3, k4⟩ := hh
  have hh2 : HandSPX.HeldZ B2 (X.env :: X.outer) a (Zc cls d) X.env.locals h2 := ⟨fun b o e => (hs2.2 b (ofB2 b o e).2).trans (k1 b o e), k2, Heap.FunFrames.sameBut hs2 hn2 k3, traced_but k4 hns1 hs2⟩
  obtain ⟨oe, vs, T, oT, ts, he, hz, hd, hv1, hrest⟩ := id hh2.2.2.2
  unfold PySem.passOn
  refine wpAny_bind (wpAny_field he hd hv1 ?_)
  rw [if_neg (show ¬ ((Value.ref T == Value.none) = true) from by simp)]
  have fin : wpAny (model X.prog X.w) X.A (setFlight (.ref a) ce.frame) (fun _ s4 => wpAny (model X.prog X.w) X.A (throw (.ref a) : Sem Value) (fun _ _ => False) X.xe s4) X.xe { s' with heap := h2 } := by
    rw [hcf, hfr]
    refine HandSPX.setFlight_onZ hh2 fun h4 hh4 up4 => wpAny_throw (tk _ _ ?_)
    refine ⟨a, B2, _, pins, σ, H', cls, d, rfl, J, nbG, ?_, .inr (.inr (by rw [hst]; exact hh4)), na, os, ag, hE⟩
    intro b o e hnf
    obtain ⟨sl, e1⟩ := up1 b o (ofG b o e).1 hnf
    have e2 : h2.get? b = some { o with slots := sl } := (hs2.2 b (gneC b o e)).trans e1
    obtain ⟨sl2, e3⟩ := up4 b _ e2 hnf
    exact ⟨sl2, e3⟩
  first
    | exact wpAny_bind (wpAny_pure (wpAny_bind fin))
    | exact wpAny_bind fin
end
section
variable {X : Cx}
/-- the comprehension, its end by use or as a value: lc_core with an element that may raise -/
theorem lcX_core {pins : List (Addr × Obj)} {s : Shared} {σ : L2.St} {H : Hp} {Q : VK} {E : XK} {elt tg iter : Expr} {scope : Scope} {own : List (Str × Nat)} {pos pos' : Pos} {wi : TI} {g : TG} {te : TE} {use : Option (Value → Sem Unit)} {Qf : Value → Shared → Prop}
    (hc : X.calm = true) (hN : X.N.Nodup) (hst : X.stack = X.env :: X.outer) (hfr : X.env.frame = some X.env.locals) (tk : Takes X (fun cls d _ H => E cls d H)) (I : Inv X pins σ H s) (hi : PI X tg iter wi) (ok : BlkOk X.N X.env.scope scope own)
    (hg : ∀ (sa : Shared) (Ha : Hp) (C : Addr) (cl : List (Str × Addr)) (fp : List Addr), PG (X.blk sa Ha scope (compEnvC scope cl C X.env) fp) tg g)
    (he : ∀ (sa : Shared) (Ha : Hp) (C : Addr) (cl : List (Str × Addr)) (fp : List Addr), PE (blkX X E sa Ha scope (compEnvC scope cl C X.env) fp) elt te) (hs : ∀ x, foldedSetIterable iter X.env x = pure x)
    (h : tLc wi g tYes te (own.map (·.2)) σ H Q)
    (hRR : ∀ D C se m H' ce, Inv X pins σ H' se → Q (.ref D) H' → se.heap.Ns C m → FpOk X pins H' C → ce.locals = C → compEnds (model X.prog X.w) X.A X.xe use Qf (.ref D) ce (.ok .next) se) :
    wpAny (model X.prog X.w) X.A (comprehension (.ListComp elt [⟨tg, iter, [], 0⟩] scope pos) scope X.env pos' (newList []) false (eval iter X.env) use) Qf X.xe s := by
  have hfree : ∀ y ∈ scope.names, y.2 = .free → ∃ c, X.env.cells.lookup y.1 = some c := fun y hy e =>
    (ok.free y hy e).elim (fun k => I.ok.has _ (.inl k)) fun k => I.ok.has _ (.inr k)
  refine comprehension_at (use := use) rfl hs (closure_ok hfree) ok.kind (fun y hy e => by rw [ok.uniq y hy, e])
    (thn (hi.run pins s σ H _ I h) fun xv s1 hx => thn hx fun itv s2 h2 => ?_)
  obtain ⟨it, fp, tn, J, H2, eit, I2, T, st2, f2, q⟩ := h2
  subst eit
  refine wpAny_newObj_type (newEnv_comp ?_) (by show 0 ≤ sizeLine; decide)
  generalize hD : s2.heap.objs.size = D
  obtain ⟨W, ⟨m0, w0⟩, turn⟩ := q D (I2.hok.fresh (Nat.le_of_eq hD))
  generalize hs3 : ({ s2 with heap := s2.heap.push { cls := .type "list", data := .seq ([] : List Value).toArray } } : Shared) = s3
  have hp3 : s3.heap = s2.heap.push { cls := .type "list", data := .seq ([] : List Value).toArray } := by rw [← hs3]
  have I3 : Inv X pins σ (upd H2 D (.lst [])) s3 := by
    rw [← hs3]
    refine I2.laid (t' := s2.toks) (fun b o z => Heap.get?_push_of_some _ z) (Nat.le_of_eq hD) ⟨Nat.zero_le _, [], 0, .nil, ?_⟩
    rw [← hD]
    exact Heap.get?_push_size _ rfl
  have f3 : ∀ b ∈ fp, FpOk X pins (upd H2 D (.lst [])) b ∧ b < s3.heap.objs.size := fun b hb => by
    obtain ⟨o, z, _⟩ := T.obj _ _ st2 b hb
    have hlt : b < s2.heap.objs.size := Heap.lt_size z
    refine ⟨⟨?_, (f2 b hb).2⟩, by rw [hp3, Heap.size_push]; exact Nat.lt_succ_of_lt hlt⟩
    rw [upd_ne (show b ≠ D by rw [← hD]; exact Nat.ne_of_lt hlt)]
    exact (f2 b hb).1
  have st3 : tn 0 s3.heap := T.keep _ _ _ st2 fun b _ o z => by rw [hp3]; exact Heap.get?_push_of_some _ z
  have I4 := block_start I3 ok hN f3
  have pg := hg s3 (upd H2 D (.lst [])) s3.heap.objs.size (cellsFrom (s3.heap.objs.size + 1) scope.names (cloFrom X.env.cells scope.names [])) fp
  have pe := he s3 (upd H2 D (.lst [])) s3.heap.objs.size (cellsFrom (s3.heap.objs.size + 1) scope.names (cloFrom X.env.cells scope.names [])) fp
  show codeAny _ _ (.compStart (.ListComp elt [⟨tg, iter, [], 0⟩] scope pos) 0 (.ref it) (.ref D) (compEnvC scope (cellsFrom (s3.heap.objs.size + 1) scope.names (cloFrom X.env.cells scope.names [])) s3.heap.objs.size X.env))
    (compEnds (model X.prog X.w) X.A X.xe use Qf (.ref D) (compEnvC scope (cellsFrom (s3.heap.objs.size + 1) scope.names (cloFrom X.env.cells scope.names [])) s3.heap.objs.size X.env)) { s3 with heap := pushCells (s3.heap.push { cls := .type "dict", data := .dict #[] }) scope.names }
  have cF : (compEnvC scope (cellsFrom (s3.heap.objs.size + 1) scope.names (cloFrom X.env.cells scope.names [])) s3.heap.objs.size X.env).frame = X.env.frame := rfl
  have cL : (compEnvC scope (cellsFrom (s3.heap.objs.size + 1) scope.names (cloFrom X.env.cells scope.names [])) s3.heap.objs.size X.env).locals = s3.heap.objs.size := rfl
  generalize compEnvC scope (cellsFrom (s3.heap.objs.size + 1) scope.names (cloFrom X.env.cells scope.names [])) s3.heap.objs.size X.env = ce at I4 pg pe cF cL ⊢
  generalize upd H2 D (.lst []) = H3 at I3 I4 pg pe w0 f3
  generalize hs4 : ({ s3 with heap := pushCells (s3.heap.push { cls := .type "dict", data := .dict #[] }) scope.names } : Shared) = s4 at I4 ⊢
  have st4 : tn 0 s4.heap := T.keep _ _ _ st3 fun b _ o z => by rw [← hs4]; exact pushCells_keeps _ _ _ _ (Heap.get?_push_of_some _ z)
  have stat : ∀ {σ' : L2.St} {H' : Hp} {s' : Shared}, Inv (X.blk s3 H3 scope ce fp) [] σ' H' s' → (∀ b ∈ fp, H' b = none) → ∀ b ∈ fp, FpOk (X.blk s3 H3 scope ce fp) [] H' b := fun {σ' H' s'} I' hn b hb =>
    ⟨hn b hb, (I'.ok.exf b hb).1, I'.ok.exfs b hb, .inl hb, fun x c z => (I'.ok.exf b hb).2 x c z, fun p hp => absurd (show p ∈ ([] : List (Addr × Obj)) ++ [] from hp) (by simp)⟩
  have loop : codeAny (model X.prog X.w) X.A (.compLoop (.ListComp elt [⟨tg, iter, [], 0⟩] scope pos) 0 (.ref it) (.ref D) ce) (compEnds (model X.prog X.w) X.A X.xe use Qf (.ref D) ce) s4 := by
    refine compLoop_any (fun n s' => ∃ i H', Inv (X.blk s3 H3 scope ce fp) [] (wipe σ (own.map (·.2))) H' s' ∧ tn i s'.heap ∧ (∀ b ∈ fp, H' b = none) ∧ W i n H') ?_ m0 ⟨0, H3, I4, st4, fun b hb => (f3 b hb).1.1, w0⟩
    rintro n s5 ⟨i, H5, I5, st5, n5, w5⟩
    rcases turn i n H5 w5 with ⟨stop, qq⟩ | ⟨go, Nx, hNx, step⟩
    · refine thnF (T.done (X.blk s3 H3 scope ce fp) rfl rfl rfl hc i [] s5 _ H5 (fun _ _ => False) I5 (stat I5 n5) st5 stop) fun r s6 ⟨hr, I6⟩ => ?_
      subst hr
      have I7 : Inv X pins σ H5 s6 := I3.call' (ch := fp) I6.os I6.base I6.hok I6.bare fun b hb => ⟨(f3 b hb).1.2.2.2.1, (f3 b hb).1.2.1, (f3 b hb).1.2.2.2.2.1, (f3 b hb).1.2.2.2.2.2⟩
      have nC : H5 s3.heap.objs.size = none := by
        rw [← cL]
        exact I6.free
      obtain ⟨m, hn, _⟩ := I6.loc
      have hn : s6.heap.Ns ce.locals m := hn
      rw [cL] at hn
      exact hRR D s3.heap.objs.size s6 m H5 ce I7 qq hn (I3.fpOk (Nat.le_refl _) nC) cL
    · refine thnF (T.item (X.blk s3 H3 scope ce fp) rfl rfl rfl hc i [] s5 _ H5 (fun _ _ => False) I5 (stat I5 n5) st5 go) fun r s6 ⟨u, hr, h6⟩ => ?_
      subst hr
      refine thnF h6 fun _ s7 ⟨x, H7, I7, r7, y7, st7, n7⟩ => ?_
      have I7' := I7.pinned (stat I7 n7) (T.obj _ _ st7)
      refine thnF (pg.run _ s7 _ H7 x u _ I7' r7 (step x H7 y7)) fun _ s8 ⟨σ8, H8, I8, hw8, q8⟩ => ?_
      refine wpAny_tests_nil ?_
      rw [if_pos rfl]
      have q8 : te σ8 H8 fun y H4 => ∃ acc, H4 D = some (.lst acc) ∧ acc.length < sizeLine ∧ Nx (upd H4 D (.lst (acc ++ [y]))) := q8
      refine wpAny_mono (pe.run _ s8 σ8 H8 _ (I8.wish _) q8) (fun z s10 hz => ?_) fun e s10 hx => noted_blk I3 hst hfr cF cL tk (fun b hb => (f3 b hb).1) hx
      obtain ⟨yv, H10, I10, r10, acc, hD10, hz10, nx⟩ := hz
      have I10 := I10.unwish
      refine app_ok (X := X.blk s3 H3 scope ce fp) I10 hD10 hz10 r10 fun s11 I11 => ?_
      obtain ⟨m', hm, w'⟩ := hNx _ nx
      have pin' : ∀ b ∈ fp, ∀ o, s7.heap.get? b = some o → s11.heap.get? b = some o ∧ upd H10 D (.lst (acc ++ [yv])) b = none := fun b hb o z =>
        let y := I11.pin (b, o) (List.mem_append_right _ (List.mem_append_right _ (mem_pinsAt hb z)))
        ⟨y.1, y.2.1⟩
      refine ⟨m', hm, i + 1, _, (I11.unpinned (pins := [])).weak (by rw [wipe_length, ← wipe_length σ8 (own.map (·.2)), hw8, wipe_length]) (fun j v z => ?_), T.keep _ _ _ st7 fun b hb o z => (pin' b hb o z).1, fun b hb => ?_, w'⟩
      · rw [← hw8] at z
        exact (wipe_some z).1
      · obtain ⟨o, z, _⟩ := T.obj _ _ st7 b hb
        exact (pin' b hb o z).2
  exact codeAny_compStart_list loop (T.self X.A 0 _ _ _ st4 loop)
/-- name = [..] on one line, the name a local, the element may raise -/
theorem ps_setLcX {i : Nat} {y : Str} {py : Pos} {E : XK} {elt tg iter : Expr} {scope : Scope} {own : List (Str × Nat)} {pos spos : Pos} {wi : TI} {g : TG} {te : TE} (hc : X.calm = true) (hN : X.N.Nodup) (hst : X.stack = X.env :: X.outer) (hfr : X.env.frame = some X.env.locals)
    (tk : Takes X (fun cls d _ H => E cls d H)) (hy : X.N[i]? = some y) (hyl : X.env.scope.names.lookup y = some .local)
    (hsw : swapsWith (.ListComp elt [⟨tg, iter, [], 0⟩] scope pos) (some (.Name y py)) spos.line X.env = pure true) (hi : PI X tg iter wi) (ok : BlkOk X.N X.env.scope scope own)
    (hg : ∀ (sa : Shared) (Ha : Hp) (C : Addr) (cl : List (Str × Addr)) (fp : List Addr), PG (X.blk sa Ha scope (compEnvC scope cl C X.env) fp) tg g)
    (he : ∀ (sa : Shared) (Ha : Hp) (C : Addr) (cl : List (Str × Addr)) (fp : List Addr), PE (blkX X E sa Ha scope (compEnvC scope cl C X.env) fp) elt te) (hs : ∀ x, foldedSetIterable iter X.env x = pure x := by intro _; rfl) :
    PS X (.Assign [.Name y py] (.ListComp elt [⟨tg, iter, [], 0⟩] scope pos) spos) (tAsg (tLc wi g tYes te (own.map (·.2))) (gName i)) := by
  refine ⟨fun pins s σ H D I h => ?_⟩
  rw [exec_Assign_Name_used _ _ _ _ hsw]
  refine wpAny_bind (wpAny_standAt (wpAny_bind ?_))
  show wpAny _ X.A (do let _ ← comprehension (.ListComp elt [⟨tg, iter, [], 0⟩] scope pos) scope X.env (firstIterPos [⟨tg, iter, [], 0⟩] pos) (newList []) false (eval iter X.env) (some (assign (.Name y py) X.env))) _ _ s
  have h : tLc wi g tYes te (own.map (·.2)) σ H (fun x H1 => gName i x σ H1 D.nx) := h
  refine wpAny_bind (thn (lcX_core (Qf := fun _ se => SP X pins D .next se) hc hN hst hfr tk I hi ok hg he hs h fun L C se m H' ce I' q hn f ec => ?_) fun _ se hq => wpAny_pure (wpAny_pure hq))
  show wpAny _ _ (assign (.Name y py) X.env (.ref L)) _ _ _
  refine wpAny_assign_Name (store_ok2 (v := V.ref L) I' hN hy (.inl hyl) rfl (fun s2 I2 ⟨a, sb, ha⟩ => ?_) (.inr hyl))
  obtain ⟨f0, f1, f2, f3, f4, f5⟩ := f
  have haC : C ≠ a := ha.elim (fun z => by rw [z]; exact f1) fun z e => f4 y a z e.symm
  rw [ec]
  refine ⟨m, hn.sameBut sb haC, fun h3 sb3 => ?_⟩
  exact ⟨_, H', I2.turned (t' := s2.toks) (fun b o hb z => (sb3.2 b hb).trans z) f0 f1 f3 f4 f5, q⟩
end
end K79
/-! An own error whose __init__ says super().__init__('..') and stores one field (the words of skel/42 turned to it). -/
namespace PySem
namespace BadX
open PySem.W PySem.Calls PyProof.Rows PySem.HandSPX
/-! ### the text of __init__ -/
def sBI : Stmt := L2.inClass (PySem.Challenge.pw_sureplay_k79_programs_as_whole_numbers.main.body.getD 2 (.Pass ⟨0, 0, 0, 0⟩)) 0
abbrev iA : Arguments := L2.defArgs sBI
abbrev iB : List Stmt := L2.defBody sBI
abbrev iS : Scope := L2.defScope sBI
/-- what is handed to super().__init__ -/
def argOf : List Stmt → Expr
  | .Expr (.Call _ (c :: _) _ _) _ :: _ => c
  | _ => .Constant .none 0 ⟨0, 0, 0, 0⟩
/-- what the written part says of BadCode, at C, and of its __init__, at fI -/
structure BadTxt (prog : Program) (K : Frag) (mg : Str → Option Value) (C fI : Addr) : Prop where
  gC : mg "BadCode" = some (.ref C)
  noS : mg "super" = none
  cls : ∃ nm q N bs bm sn sub ab col dd k0 k1 k2 k3 k5, K.lookup C = some (excClassObj nm q C N bs bm true sn sub ab col dd k0 k1 k2 k3 k5 "ValueError.__new__") ∧ refsVE bm = true
  sa : findIn K (.ref C) "__setattr__" = some (some (.builtin "object.__setattr__"))
  ga : findIn K (.ref C) "__getattribute__" = some (some (.builtin "BaseException.__getattribute__"))
  gg : findIn K (.ref C) "__getattr__" = some none
  noN : findIn K (.ref C) "at" = some none
  iC : findIn K (.ref C) "__init__" = some (some (.ref fI))
  tC : typeIn K (.ref fI) = some (.type "function")
  kC : keepIn K (.ref C) = true
  exC : subIn K (.ref C) (.type "BaseException") = some true
  veC : subIn K (.ref C) (.type "ValueError") = some true
  tyC : typeIn K (.ref C) = some (.type "type")
  hdC : hasDictIn K C = true
  te : exmOne K (.ref C) (.ref C) = some true
  mrC : mroIn K C (.ref C) = some true
  spC : ks_superIn K C C "__init__" = some (some (.builtin "ValueError.__init__"))
  opq : nsIn K cStatics "thirdparty.any" = some none
  top : (prog.main.scope.names.lookup ("super" : Str)).isSome = false
  fn : ∃ (cda cc : Addr) (oc : Value) (od : Option Addr) (doc pm : Value) (an : Option Addr) (ct : Value) (osl : Array (Option Value)),
    K.lookup fI = some ⟨oc, od, .func (ksFn "__init__" "BadCode.__init__" iA iB iS .none .none doc pm an (.ref cda) ct cc), osl⟩ ∧ codeIn K (.ref cda) "BadCode.__init__" = true ∧
    (∃ (ccl : Value) (cdd : Option Addr) (ccs : Array (Option Value)) (vs : Array Value) (file : Str) (tf : Tok), K.lookup cda = some ⟨ccl, cdd, .fields vs, ccs⟩ ∧ vs[2]? = some (.str file tf) ∧ ((prog.main.file : Str) == file) = true) ∧
    ∃ (cl : Value) (cld : Option Addr) (csl : Array (Option Value)), K.lookup cc = some ⟨cl, cld, .cell (some (.ref C)), csl⟩
theorem one_size (v : Value) : [v].length ≤ sizeLine := by
  rw [sizeLine_eq]
  exact (by decide : 1 ≤ 16777216)
/-- what __init__ leaves of a fresh exception at x -/
structure InitEnd (h h' : Heap) (x C dx t1 : Addr) (v : Value) : Prop where
  keep : ∀ b o, b ≠ x → h.get? b = some o → h'.get? b = some o
  obj : h'.get? x = some { cls := .ref C, dict := some dx, data := .fields #[.ref t1, .none, .none, .none, .bool false, .none] }
  dbig : h.objs.size ≤ dx
  dne : dx ≠ x
  ns : h'.Ns1 dx (fun y => if y = "at" then some v else none)
/-- a made BadCode -/
structure OwnMade (h h' : Heap) (e C d : Addr) (v : Value) : Prop where
  keep : ∀ b o, h.get? b = some o → h'.get? b = some o
  new : h.objs.size ≤ e
  obj : ∃ oe vs, h'.get? e = some oe ∧ oe.cls = .ref C ∧ oe.dict = some d ∧ oe.data = .fields vs ∧ vs[1]? = some .none
  dbig : h.objs.size ≤ d
  dne : d ≠ e
  ns : h'.Ns1 d (fun y => if y = "at" then some v else none)
section
variable {prog : Program} {w : World} {A : Around} {E : Value → Shared → Prop} {R : Result → Shared → Prop} {s : Shared} {K : Frag} {mg mb : Str → Option Value} {C fI : Addr}
theorem call_wrap {h : Heap} {g : Array GenState} {d : Drawn} {t : Nat} {os : OsState} {nm q : Str} {C N u e t0 : Addr} {bs bm : List Value} {hdct : Bool} {sn : List Str} {sub : List Value} {ab : Bool} {col : Option Bool} {dd : Option Addr} {k0 k1 k2 k3 k5 : Option Value}
    {rest : List Value} {Q : Value → Shared → Prop} (hC : h.get? C = some (excClassObj nm q C N bs bm hdct sn sub ab col dd k0 k1 k2 k3 k5 "ValueError.__new__")) (hT : ∀ X : String, bm.contains (.type X) = veTail.contains (.type X)) (he : h.get? e = some (excO C t0))
    (hu : h.get? u = some (kxs_mw "ValueError.__init__" e)) (hrest : rest.length ≤ sizeLine)
    (hq : ∀ h' t1, (∀ b o, b ≠ e → h.get? b = some o → h'.get? b = some o) → h'.get? e = some (excO C t1) → Q .none ⟨h', g, d, t, os⟩) :
    wpAny (model prog w) A (call (.ref u) rest) Q E ⟨h, g, d, t, os⟩ := by
  refine wpAny_call (codeAny_of_tree ?_)
  show wpAny _ A.in1 (callAny (.ref u) ⟨rest, []⟩) _ _ _
  simp only [callAny]
  refine wpAny_bind (wpAny_load hu ?_)
  simp only [kxs_mw, (by decide : (Value.type "method-wrapper" == Value.type "method" || Value.type "method-wrapper" == Value.type "builtin_function_or_method" || Value.type "method-wrapper" == Value.type "method-wrapper") = true), if_true]
  refine KFB.if_so (by decide) (wpAny_bind (check_bound_init F.excBase_ValueError.toExcCallFacts hC he rfl (wpAny_bind (wpAny_pure (wpAny_pure ⟨plainId_quiet F.excBase_ValueError.init.plain _, codeAny_builtin F.excBase_ValueError.initEntry ?_⟩)))))
  exact exc_init_tree (cls := .ref C) (t0 := t0) (dv := none) (c2 := .none) (c3 := .none) (b4 := .bool false) he hrest fun h' k e1 _ => hq h' _ k e1
theorem bad_init (T : BadTxt prog K mg C fI) {x t0 : Addr} {v : Value} (X : K.In s.heap) (hg : s.heap.Ns mainGlobals mg) (hb : s.heap.Ns builtinsNs mb) (hmb : mb "super" = some (.type "super")) (hlim : s.heap.NoLimit) (hx : s.heap.get? x = some (excO C t0)) (hnx : K.lookup x = none) (hroom : A.depth < recursionLimit)
    (hq : ∀ h' tk dx t1, InitEnd s.heap h' x C dx t1 v → R (.ok (.ret .none)) { s with heap := h', toks := tk }) :
    codeAny (model prog w) A (.call (.ref fI) ⟨[.ref x, v], []⟩) R s := by
  obtain ⟨cda, cc, oc, od, doc, pm, an, ct, osl, ho, hcd, ⟨ccl, cdd, ccs, vs, file, tf, hcode, hvs, hfile⟩, ⟨cl, cld, csl, hcell⟩⟩ := T.fn
  obtain ⟨nm, q, N, bs, bm, sn, sub, ab, col, dd, k0, k1, k2, k3, k5, hC, hbm⟩ := T.cls
  have hcl : clsIn K C = some { name := nm, bases := bs, mro := .ref C :: bm, ns := N, qualname := q, hasDict := true, slotNames := sn, subclasses := sub, abstract := ab, collection := col, hasDel := false } := by unfold clsIn; rw [hC] <;> rfl
  refine ks_codeAny_call_defAt (fd := ksFn "__init__" "BadCode.__init__" iA iB iS .none .none doc pm an (.ref cda) ct cc) (binds := [("self", .ref x), ("at", v)])
    hroom (X _ _ ho) rfl hlim (codeRec_of X hcd) rfl (BindsTo.of_eq (by first | rfl | with_unfolding_all rfl)) (by
      show ∀ y ∈ iS.names, y.2 ≠ .cell
      decide +kernel) (by
      intro y hy
      simp only [List.mem_cons, List.not_mem_nil, or_false] at hy
      rcases hy with rfl | rfl <;> rfl) (fun h1 hns kp => ?_) rfl rfl rfl
  have X1 : K.In h1 := X.keeps kp
  have hx1 := kp _ _ hx
  generalize hL : s.heap.objs.size = L at hns
  have hxL : x ≠ L := by rw [← hL]; exact Nat.ne_of_lt (Heap.lt_size hx)
  -- super().__init__('invalid code')
  refine ks_wpAt_execs_cons (ks_wpAt_Expr_any (ks_wpAt_MethodCall ?_))
  refine ks_wpAt_super_base (env := ksEnv "BadCode.__init__" iS L fI (.ref cda) cc) rfl rfl (by decide) rfl (X1 _ _ ho) rfl rfl rfl (X1 _ _ hcode) rfl hvs hfile T.top ?_
  refine ks_loadName_global (env := ksEnv "BadCode.__init__" iS L fI (.ref cda) cc) rfl rfl (loadGlobal_builtin (env := ksEnv "BadCode.__init__" iS L fI (.ref cda) cc) (hg.keeps kp) T.noS (hb.keeps kp) hmb ⟨rfl, ?_⟩)
  refine wpAny_loadName_free rfl rfl rfl ⟨_, X1 _ _ hcell, rfl⟩ ?_
  refine wpAny_loadName_local (v := .ref x) rfl rfl hns (by first | rfl | with_unfolding_all rfl | kernel_rfl) ?_
  refine ks_wpAny_isType_cls (X1 _ _ hC) rfl ⟨rfl, ?_⟩
  refine ks_wpAny_call_super (X1 _ _ hC) rfl hx1 rfl (fun c e => nomatch e) (looks_mroIn X1 T.mrC) (fun h2 hso kp2 => ?_)
  have X2 : K.In h2 := X1.keeps kp2
  have hx2 := kp2 _ _ hx1
  have hI : InstAt h2 x (excO C t0) C none := ⟨hx2, rfl, rfl, trivial⟩
  have isI : Looks (model prog w) h2 (isInstance (.ref x) (.type "ValueError")) true := hI.type.andThen (looks_subIn X2 T.veC)
  have hmro : Looks (model prog w) h2 (mroOf (.ref C)) (.ref C :: bm) := fun A Q E s k q => wpAny_bind ((looks_clsIn X2 hcl) A _ E s k (wpAny_pure q))
  have hal : alongIn K "__init__" (((Value.ref C :: bm).dropWhile (· != .ref C)).drop 1) = some (some (.builtin "ValueError.__init__")) := by
    have z := T.spC
    unfold ks_superIn at z
    rw [hcl] at z
    exact z
  refine kxs_getMethod kxs_ValueError hso (looks_opaque X2 T.opq) hmro rfl X2 hal isI (ks_ne X2 hI hcl) (by decide) ?_
  generalize hu : h1.objs.size = so at hso
  refine kxs_callWith (i := "ValueError.__init__") (x := x) rfl (evalArgs_plain ?_)
  show wpAny _ _ (spliced [(false, eval (argOf iB) _)]) _ _ _
  refine spliced_cons (Constant_str (spliced_nil ⟨Heap.get?_push_size _ rfl, ?_⟩))
  have kp3 : ∀ b o, h2.get? b = some o → (h2.push (kxs_mw "ValueError.__init__" x)).get? b = some o := fun b o e => Heap.get?_push_of_some _ e
  refine call_wrap (X2.keeps kp3 _ _ hC) (fun Y => refsVE_contains Y bm hbm) (kp3 _ _ hx2) (Heap.get?_push_size _ rfl) (one_size _) fun h4 t1 kp4 hx4 => ?_
  -- self.at = at
  have k14 : ∀ b o, b ≠ x → h1.get? b = some o → h4.get? b = some o := fun b o n e => kp4 b o n (kp3 b o (kp2 b o e))
  have X4 : K.In h4 := fun b o e => by
    by_cases n : b = x
    · rw [n] at e
      have z := X _ _ e
      rw [hx] at z
      cases z
      exact absurd e (by rw [hnx]; intro q; cases q)
    · exact k14 b o n (X1 _ _ e)
  have hns4 : h4.Ns L _ := hns.at' fun o e => k14 L o (Ne.symm hxL) e
  show wpAt _ _ _ (execs [Stmt.Assign _ _ _] _) _ _ _
  refine ks_wpAt_execs_cons (ks_wpAt_Assign_Attr ?_)
  refine wpAt_of_wpAny (wpAny_Name (wpAny_loadName_local (v := v) rfl rfl hns4 (by first | rfl | with_unfolding_all rfl | kernel_rfl) ?_) (by decide))
  refine wpAny_Name (wpAny_loadName_local (v := .ref x) rfl rfl hns4 (by first | rfl | with_unfolding_all rfl | kernel_rfl) ?_) (by decide)
  refine set_plain X4 (ox := excO C t1) (od := none) ⟨hx4, rfl, rfl, trivial⟩ T.sa ?_
  refine exc_osa X4 hx4 hcl (show refsVE (.ref C :: bm) = true from hbm) rfl T.noN (fun h5 tk5 dx k5 dn dne hx5 hn5 => ?_)
  show wpAt _ _ _ (execs [] _) _ _ _
  refine wpAt_of_wpAny (wpAny_execs_nil (hq h5 tk5 dx t1 ⟨fun b o n e => k5 b o n (k14 b o n (kp b o e)), hx5, ?_, dne, hn5⟩))
  obtain ⟨oL, _, _, hoL, _⟩ := hns4
  rw [hL]
  exact Nat.le_of_lt (Nat.lt_of_lt_of_le (Heap.lt_size hoL) dn)
theorem bad_made (T : BadTxt prog K mg C fI) {v : Value} (X : K.In s.heap) (hg : s.heap.Ns mainGlobals mg) (hb : s.heap.Ns builtinsNs mb) (hmb : mb "super" = some (.type "super")) (hlim : s.heap.NoLimit) (hroom : A.depth + 1 < recursionLimit)
    (hq : ∀ h' tk e d, OwnMade s.heap h' e C d v → R (.ok (.ret (.ref e))) { s with heap := h', toks := tk }) :
    codeAny (model prog w) A (.call (.ref C) ⟨[v], []⟩) R s := by
  obtain ⟨nm, q, N, bs, bm, sn, sub, ab, col, dd, k0, k1, k2, k3, k5, hC, hbm⟩ := T.cls
  obtain ⟨hp, g, dr, tk, os⟩ := s
  have k : ∀ b o, hp.get? b = some o → ((hp.push (kdv_tup [v])).push (excO C hp.objs.size)).get? b = some o := fun b o e => Heap.get?_push_of_some _ (Heap.get?_push_of_some _ e)
  have hget : ((hp.push (kdv_tup [v])).push (excO C hp.objs.size)).get? (hp.objs.size + 1) = some (excO C hp.objs.size) := by heap_get
  have hnx : K.lookup (hp.objs.size + 1) = none := by
    cases e : K.lookup (hp.objs.size + 1) with
    | none => rfl
    | some o =>
      have z : hp.get? (hp.objs.size + 1) = some o := X _ _ e
      exact absurd (Nat.lt_of_succ_lt (Heap.lt_size z)) (Nat.lt_irrefl _)
  refine call_own F.excBase_ValueError (fun X => refsVE_contains X bm hbm) (X _ _ hC) (looks_findIn X T.iC) (fun self => bind_fn X self T.tC) (one_size v) ?_
  refine bad_init (s := ⟨(hp.push (kdv_tup [v])).push (excO C hp.objs.size), g, dr, tk, os⟩) T (X.keeps k) (hg.keeps k) (hb.keeps k) hmb (hlim.keeps k) hget hnx ?_ fun h' tk' dx t1 ⟨k', hx, dn, dne, hns⟩ => ?_
  · show A.depth + 1 < recursionLimit
    exact hroom
  · have old : ∀ b o, hp.get? b = some o → h'.get? b = some o := fun b o e => k' b o (Nat.ne_of_lt (Nat.lt_succ_of_lt (Heap.lt_size e))) (k b o e)
    have z : hp.objs.size + 1 + 1 ≤ dx := by
      have q := dn
      rw [Heap.size_push, Heap.size_push] at q
      exact q
    exact ⟨rfl, hq h' tk' (hp.objs.size + 1) dx ⟨old, Nat.le_succ _, ⟨_, _, hx, rfl, rfl, rfl, rfl⟩, Nat.le_trans (Nat.le_trans (Nat.le_succ _) (Nat.le_succ _)) z, dne, hns⟩⟩
end
end BadX
end PySem
namespace L2
open PySem PySem.Spec PyProof.Rows
theorem relO_at {v : V} {v' : Value} (r : RelV v v') (f : Str) : RelO (List.lookup f [(("at" : Str), v)]) (if f = "at" then some v' else none) := by
  by_cases hw : f = "at"
  · subst hw
    rw [if_pos rfl]
    have q : List.lookup ("at" : Str) [(("at" : Str), v)] = some v := by simp [List.lookup]
    rw [q]
    exact r
  · rw [if_neg hw]
    have qw : (f == ("at" : Str)) = false := by simpa using hw
    have q2 : List.lookup f [(("at" : Str), v)] = none := by simp [List.lookup, qw]
    rw [q2]
    trivial
section
variable {X : Cx} {C fI : Addr}
/-- BadCode(e) -/
def tMkBad (C : Addr) (ta : TA) : St → Hp → XK → Prop := fun σ H Q => ta σ H fun vs H1 => ∃ v, vs = [v] ∧ ∀ d, H1 d = none → Q (.ref C) (some d) (upd H1 d (.xd [(("at" : Str), v)]))
theorem pmk_bad {a : Expr} {ta : TA} {p pos : Pos} {k : Nat} (T : PySem.BadX.BadTxt X.prog X.K X.mg C fI) (hr : Room k X.A) (ha : PA X [a] ta) (hg : Gl X "BadCode" := by rfl)
    (he : starEach (a :: []) X.env = (false, eval a X.env) :: starEach [] X.env := by rfl) (hpl : (backTo pos (starEach [] X.env)).any (·.1) = false := by rfl) :
    PMk X (.Call (.Name "BadCode" p) [a] [] pos) (tMkBad C ta) := by
  intro pins s σ H Q I h
  refine wpAny_Call_Name_kw (ld_glob I hg T.gC ?_)
  refine PySem.W.callWith_K (h₀ := X.base) I.ok.mod.kin T.kC (thn (ha.run pos pins s σ H _ I h) fun us s1 hh => ?_) he hpl
  obtain ⟨vs, H1, I1, r1, v, ev, q1⟩ := hh
  subst ev
  refine ⟨I1.kIn, ?_⟩
  cases r1 with
  | cons rv rn =>
    rename_i v' us'
    cases rn
    show wpAny _ _ (call (.ref C) [v']) _ _ _
    have hlim := I1.nolimit
    have hgl := I1.mod.glob.keeps I1.bk
    obtain ⟨mb, hb1, hb2⟩ := I1.mod.blt
    have hbl := hb1.keeps I1.bk
    have hsup : mb "super" = some (.type "super") := (hb2 "super" (by decide +kernel)).trans (by decide +kernel)
    obtain ⟨hp, g, dr, tk, os⟩ := s1
    refine wpAny_call (PySem.BadX.bad_made T I1.kIn hgl hbl hsup hlim (by have := hr.dp; omega) fun h' tk' e d M => ?_)
    show MkP X pins σ Q (.ref e) ⟨h', g, dr, tk', os⟩
    obtain ⟨oe, fv, hoe, hc, hd, hdat, h1⟩ := M.obj
    have hns := M.ns
    obtain ⟨G', g1, g2⟩ := restrict h' fun b => decide (b ≠ e)
    have gk : ∀ b, b ≠ e → G'.get? b = h'.get? b := fun b hb => g1 b (decide_eq_true hb)
    have ge : G'.get? e = none := g2 e (by simp)
    have old : ∀ b o, hp.get? b = some o → G'.get? b = some o := fun b o q => (gk b (Nat.ne_of_lt (Nat.lt_of_lt_of_le (Heap.lt_size q) M.new))).trans (M.keep b o q)
    have ob : ObjOk X.prog X.w (upd H1 d (.xd [(("at" : Str), v)])) G' d (.xd [(("at" : Str), v)]) :=
      ⟨_, hns.at (fun o q => (gk d M.dne).trans q), fun f => relO_at rv f⟩
    have J : Inv X pins σ (upd H1 d (.xd [(("at" : Str), v)])) ⟨G', g, dr, tk', os⟩ := I1.laid (t' := tk') old M.dbig ob
    refine ⟨e, oe, fv, ⟨G', g, dr, tk', os⟩, _, .ref C, some d, rfl, J, fun b o q => ?_, ge, hoe, ⟨hc, hd⟩, hdat, h1, ?_, rfl, I1.bare, raises_own T.exC T.tyC, q1 d (I1.hok.fresh M.dbig)⟩
    · by_cases hb : b = e
      · have q' : G'.get? b = some o := q
        rw [hb, ge] at q'; cases q'
      · exact (gk b hb).symm.trans q
    · rw [upd_ne (Ne.symm M.dne)]
      exact I1.hok.fresh M.new
/-- raise BadCode(e) -/
def tRaiseBad (C : Addr) (W : WX) (ta : TA) : TS := fun _ σ H => tMkBad C ta σ H fun cls d H' => W cls d σ H'
theorem ps_raiseBad {a : Expr} {ta : TA} {W : WX} {p pos pos2 : Pos} {k : Nat} (hc : X.calm = true) (T : PySem.BadX.BadTxt X.prog X.K X.mg C fI) (hr : Room k X.A) (tk : Takes X W) (ha : PA X [a] ta) (hg : Gl X "BadCode" := by rfl)
    (he : starEach (a :: []) X.env = (false, eval a X.env) :: starEach [] X.env := by rfl) (hpl : (backTo pos (starEach [] X.env)).any (·.1) = false := by rfl) :
    PS X (.Raise (some (.Call (.Name "BadCode" p) [a] [] pos)) none pos2) (tRaiseBad C W ta) := ps_raise hc tk (pmk_bad T hr ha hg he hpl)
end
end L2
/-! The text by places, the data, the promises. -/
namespace K79
open PySem L2
/-! ### the text -/
def top (i : Nat) : Stmt := PySem.Challenge.pw_sureplay_k79_programs_as_whole_numbers.main.body.getD i (.Pass ⟨0, 0, 0, 0⟩)
abbrev sPI : Stmt := inClass (top 10) 0
abbrev sPE : Stmt := inClass (top 10) 1
abbrev sPN : Stmt := top 12
abbrev sNI : Stmt := inClass (top 13) 0
abbrev sNT : Stmt := inClass (top 13) 1
abbrev sNC : Stmt := inClass (top 13) 2
abbrev sRP : Stmt := top 14
abbrev sPool : Stmt := top 16
abbrev sDraw : Stmt := top 17
abbrev sFew : Stmt := top 19
abbrev sNum : Stmt := top 20
abbrev sSame : Stmt := top 21
abbrev sNoc : Stmt := top 22
abbrev sRow : Stmt := top 25
abbrev sLN : Stmt := top 26
abbrev sLR : Stmt := top 27
abbrev sLaw : Stmt := top 28
/-! ### heaps -/
def Sq : HO → Prop
  | .lst _ => True
  | .tup _ => True
  | .frz _ _ => True
  | _ => False
/-- lists and tuples stand as they stood -/
def Kp (H H' : Hp) : Prop := ∀ b o, H b = some o → Sq o → H' b = some o
theorem Kp.rfl' {H : Hp} : Kp H H := fun _ _ e _ => e
theorem Kp.trans {H H1 H2 : Hp} (a : Kp H H1) (b : Kp H1 H2) : Kp H H2 := fun c o e s => b c o (a c o e s) s
theorem Kp.of {H H' : Hp} (s : Same H H') : Kp H H' := fun b o e _ => s b o e
/-- all but what stands at a is as it was -/
def Fm (a : Addr) (H H' : Hp) : Prop := ∀ b o, H b = some o → b ≠ a → H' b = some o
theorem Fm.rfl' {a : Addr} {H : Hp} : Fm a H H := fun _ _ e _ => e
theorem Fm.trans {a : Addr} {H H1 H2 : Hp} (x : Fm a H H1) (y : Fm a H1 H2) : Fm a H H2 := fun b o e n => y b o (x b o e n) n
theorem Fm.of {a : Addr} {H H' : Hp} (s : Same H H') : Fm a H H' := fun b o e _ => s b o e
theorem Fm.upd {a : Addr} {H : Hp} {o : HO} : Fm a H (upd H a o) := fun b u e n => by rw [upd_ne n]; exact e
theorem Fm.kp {a : Addr} {H H' : Hp} (x : Fm a H H') {u : HO} (h : H a = some u) (n : ¬ Sq u) : Kp H H' := fun b o e s => x b o e fun z => by
  rw [z, h] at e
  cases e
  exact n s
/-- a new address, then changed again and again -/
theorem Fm.same {a : Addr} {H H' : Hp} (x : Fm a H H') (h : H a = none) : Same H H' := fun b o e => x b o e (ne_of_none e h)
theorem same_upd {H : Hp} {p : Addr} {o : HO} (h : H p = none) : Same H (upd H p o) := fun b u e => by rw [upd_ne (ne_of_none e h)]; exact e
/-- without what stands at a -/
def off (a : Addr) (H : Hp) : Hp := fun b => if b = a then none else H b
theorem off_ne {a b : Addr} {H : Hp} (n : b ≠ a) : off a H b = H b := if_neg n
theorem off_self {a : Addr} {H : Hp} : off a H a = none := if_pos rfl
theorem off_get {a b : Addr} {H : Hp} {o : HO} (e : off a H b = some o) : H b = some o ∧ b ≠ a := by
  by_cases n : b = a
  · rw [n, off_self] at e
    cases e
  · rw [off_ne n] at e
    exact ⟨e, n⟩
theorem off_same {a : Addr} {H : Hp} : Same (off a H) H := fun _ _ e => (off_get e).1
theorem Fm.off {a : Addr} {H H' : Hp} (x : Fm a H H') : Same (off a H) (off a H') := fun b o e => by
  rw [off_ne (off_get e).2]
  exact x b o (off_get e).1 (off_get e).2
theorem same_off {a : Addr} {H H' : Hp} (x : Same H H') : Same (off a H) (off a H') := (Fm.of x).off
/-- what H' has and H hasn't -/
def fresh (H H' : Hp) : Hp := fun b => match H b with
  | none => H' b
  | some _ => none
theorem fresh_at {H H' : Hp} {b : Addr} {o : HO} (n : H b = none) (e : H' b = some o) : fresh H H' b = some o := by
  unfold fresh
  rw [n]
  exact e
theorem fresh_get {H H' : Hp} {b : Addr} {o : HO} (e : fresh H H' b = some o) : H' b = some o ∧ H b = none := by
  unfold fresh at e
  cases n : H b with
  | none =>
    rw [n] at e
    exact ⟨e, rfl⟩
  | some u =>
    rw [n] at e
    cases e
theorem off_at {a b : Addr} {H : Hp} {o : HO} (e : H b = some o) (n : b ≠ a) : off a H b = some o := by rw [off_ne n]; exact e
section
variable {K : PySem.W.Frag} {H H' : Hp}
theorem _root_.L2.SqL.kp {a : Addr} {xs : List V} (k : Kp H H') (h : SqL K H a xs) : SqL K H' a xs := by
  rcases h with (h | ⟨o, h⟩) | h
  · exact .inl (.inl (k _ _ h True.intro))
  · exact .inl (.inr ⟨o, k _ _ h True.intro⟩)
  · exact .inr h
theorem _root_.L2.SqT.kp {a : Addr} {xs : List V} (k : Kp H H') (h : SqT K H a xs) : SqT K H' a xs := by
  rcases h with (h | ⟨o, h⟩) | h
  · exact .inl (.inl (k _ _ h True.intro))
  · exact .inl (.inr ⟨o, k _ _ h True.intro⟩)
  · exact .inr h
mutual
theorem dp_kp (k : Kp H H') : ∀ (d : PyData) (v : V), Dp K H v d → Dp K H' v d
  | .none, _, h => by
    cases h
    exact .non
  | .bool b, _, h => by
    cases h
    exact .bl b
  | .int i, _, h => by
    cases h
    exact .int i
  | .str x, _, h => by
    cases h
    exact .str x
  | .list ds, _, h => by
    cases h with
    | lst hs ha => exact .lst (SqL.kp k hs) (dpAll_kp k ds _ ha)
  | .tuple ds, _, h => by
    cases h with
    | tup hs ha => exact .tup (SqT.kp k hs) (dpAll_kp k ds _ ha)
  | .dict _, _, h => by cases h
theorem dpAll_kp (k : Kp H H') : ∀ (ds : List PyData) (vs : List V), DpAll K H vs ds → DpAll K H' vs ds
  | [], _, h => by
    cases h
    exact .nil
  | d :: ds, _, h => by
    cases h with
    | cons h1 h2 => exact .cons (dp_kp k d _ h1) (dpAll_kp k ds _ h2)
end
theorem _root_.L2.Dp.kp {d : PyData} {v : V} (h : Dp K H v d) (k : Kp H H') : Dp K H' v d := dp_kp k d v h
theorem _root_.L2.DpAll.kp {ds : List PyData} {vs : List V} (h : DpAll K H vs ds) (k : Kp H H') : DpAll K H' vs ds := dpAll_kp k ds vs h
theorem dpAll_len : ∀ {vs : List V} {ds : List PyData}, DpAll K H vs ds → vs.length = ds.length
  | _, _, .nil => rfl
  | _, _, .cons _ t => by rw [List.length_cons, List.length_cons, dpAll_len t]
theorem dpAll_get : ∀ {vs : List V} {ds : List PyData} {i : Nat} {v : V}, DpAll K H vs ds → vs[i]? = some v → ∃ d, ds[i]? = some d ∧ Dp K H v d
  | _, _, _, _, .nil, e => by simp at e
  | _, _, 0, _, .cons h _, e => by
    simp at e
    subst e
    exact ⟨_, rfl, h⟩
  | _, _, i + 1, v, .cons _ t, e => by
    obtain ⟨d, h1, h2⟩ := dpAll_get (i := i) (v := v) t (by simpa using e)
    exact ⟨d, by simpa using h1, h2⟩
theorem _root_.L2.DpAll.len {vs : List V} {ds : List PyData} (h : DpAll K H vs ds) : vs.length = ds.length := dpAll_len h
theorem _root_.L2.DpAll.get {vs : List V} {ds : List PyData} {i : Nat} {v : V} (h : DpAll K H vs ds) (e : vs[i]? = some v) : ∃ d, ds[i]? = some d ∧ Dp K H v d := dpAll_get h e
theorem _root_.L2.DpAll.getD : ∀ {vs : List V} {ds : List PyData} {i : Nat} {d : PyData}, DpAll K H vs ds → ds[i]? = some d → ∃ v, vs[i]? = some v ∧ Dp K H v d := fun {vs ds i d} h e => by
  have hl := h.len
  have hi : i < vs.length := by rw [hl]; exact (List.getElem?_eq_some_iff.mp e).1
  obtain ⟨d', h1, h2⟩ := h.get (List.getElem?_eq_getElem hi)
  rw [e] at h1
  cases h1
  exact ⟨_, List.getElem?_eq_getElem hi, h2⟩
theorem dpAll_app : ∀ {vs ws : List V} {ds es : List PyData}, DpAll K H vs ds → DpAll K H ws es → DpAll K H (vs ++ ws) (ds ++ es)
  | _, _, _, _, .nil, h => h
  | _, _, _, _, .cons a t, h => .cons a (dpAll_app t h)
theorem _root_.L2.DpAll.app {vs ws : List V} {ds es : List PyData} (a : DpAll K H vs ds) (b : DpAll K H ws es) : DpAll K H (vs ++ ws) (ds ++ es) := dpAll_app a b
theorem _root_.L2.DpAll.one {v : V} {d : PyData} (h : Dp K H v d) : DpAll K H [v] [d] := .cons h .nil
theorem dp_ints : ∀ l : List Int, DpAll K H (l.map V.int) (l.map PyData.int)
  | [] => .nil
  | x :: l => .cons (.int x) (dp_ints l)
theorem of_ints : ∀ {l : List Int} {vs : List V}, DpAll K H vs (l.map PyData.int) → vs = l.map V.int
  | [], _, h => by
    cases h
    rfl
  | x :: l, _, h => by
    cases h with
    | cons h1 h2 =>
      cases h1
      rw [of_ints h2]
      rfl
end
/-! ### the data of a game -/
def names : List Str := ["push", "load", "store", "sign", "jump", "skip", "lot", "end", "ask", "show", "pay", "take", "view", "long", "unit", "back"]
def nm (k : Nat) : Str := names.getD k ""
abbrev dInt (i : Int) : PyData := .int i
def dPair (m : Int × Int) : PyData := .tuple [.int m.1, .int m.2]
def dInstr (x : Nat × Int) : PyData := .tuple [.str (nm x.1), .int x.2]
def dSizes (l : List Int) : PyData := .tuple (l.map PyData.int)
def dMoves (l : List (Int × Int)) : PyData := .tuple (l.map dPair)
def dCode (c : List (Nat × Int)) : PyData := .tuple (c.map dInstr)
def dRounds (l : List (List (Nat × Int))) : PyData := .tuple (l.map dCode)
def dRow (g : Game) : PyData := .tuple [dSizes g.sizes, dMoves g.moves, dRounds g.rounds]
def dNum (r : Row) : PyData := .tuple [.int r.1, .int r.2.1, .int r.2.2]
def dRows (l : List Row) : PyData := .list (l.map dNum)
/-! ### the objects -/
/-- a Program's fields -/
def pf (s m r : Addr) : List (Str × V) := putF "rounds" (.ref r) (putF "moves" (.ref m) (putF "sizes" (.ref s) []))
structure ProgAt (K : PySem.W.Frag) (C : Addr) (H : Hp) (x : V) (g : Game) : Prop where
  ex : ∃ a dx s m r, x = .ref a ∧ H a = some (.ins C dx (pf s m r)) ∧ Dp K H (.ref s) (dSizes g.sizes) ∧ Dp K H (.ref m) (dMoves g.moves) ∧ Dp K H (.ref r) (dRounds g.rounds)
theorem ProgAt.same {K : PySem.W.Frag} {C : Addr} {H H' : Hp} {x : V} {g : Game} (h : ProgAt K C H x g) (s : Same H H') : ProgAt K C H' x g := by
  obtain ⟨a, dx, s1, m, r, e, h1, h2, h3, h4⟩ := h.ex
  exact ⟨a, dx, s1, m, r, e, s _ _ h1, h2.kp (.of s), h3.kp (.of s), h4.kp (.of s)⟩
/-- a reader's fields -/
def rf (l : Addr) (i : Nat) : List (Str × V) := putF "at" (.int i) (putF "numbers" (.ref l) [])
/-- a Numbers over ns, at its i-th number -/
def RdAt (C : Addr) (H : Hp) (r l : Addr) (ns : List Int) (i : Nat) : Prop := ∃ dx, H r = some (.ins C dx (rf l i)) ∧ H l = some (.lst (ns.map V.int))
/-- the pool: the script's copy, five numbers -/
def Pool (H : Hp) (a c : Addr) : Prop := ∃ (ns : List Int) (p b m k u : Int), H a = some (.lst [.ref c, .int p, .int b, .int m, .int k, .int u]) ∧ H c = some (.lst (ns.map V.int)) ∧ c ≠ a ∧ 0 ≤ p
theorem Pool.same {H H' : Hp} {a c : Addr} (h : Pool H a c) (s : Same H H') : Pool H' a c := by
  obtain ⟨ns, p, b, m, k, u, h1, h2, h3, h4⟩ := h
  exact ⟨ns, p, b, m, k, u, s _ _ h1, s _ _ h2, h3, h4⟩
theorem Pool.at {H : Hp} {a c : Addr} (h : Pool H a c) : ∃ o o', H a = some o ∧ H c = some o' := by
  obtain ⟨ns, p, b, m, k, u, h1, h2, h3, h4⟩ := h
  exact ⟨_, _, h1, h2⟩
theorem Pool.upd {H : Hp} {a c D : Addr} {o : HO} (h : Pool H a c) (n1 : D ≠ a) (n2 : D ≠ c) : Pool (upd H D o) a c := by
  obtain ⟨ns, p, b, m, k, u, h1, h2, h3, h4⟩ := h
  exact ⟨ns, p, b, m, k, u, by rw [upd_ne (Ne.symm n1)]; exact h1, by rw [upd_ne (Ne.symm n2)]; exact h2, h3, h4⟩
theorem Pool.ne {H : Hp} {a c D : Addr} (h : Pool H a c) (n : H D = none) : D ≠ a ∧ D ≠ c := by
  obtain ⟨ns, p, b, m, k, u, h1, h2, h3, h4⟩ := h
  exact ⟨fun z => (by rw [z, h1] at n; cases n), fun z => (by rw [z, h2] at n; cases n)⟩
/-- an error's dict -/
abbrev Xd (H : Hp) (d : Addr) (j : Nat) : Prop := H d = some (.xd [(("at" : Str), V.int j)])
/-! ### the promises -/
section
variable (K : PySem.W.Frag) (C CN CB : Addr)
def spPI : Sp := fun vs H Q _ => ∃ (p dx : Addr) (a b c : V) (g : Game), vs = [.ref p, a, b, c] ∧ H p = some (.ins C dx []) ∧ g.rounds.length ≤ 1000 ∧ Dp K H a (.list (g.sizes.map PyData.int)) ∧ Dp K H b (.list (g.moves.map dPair)) ∧
  Dp K H c (.list (g.rounds.map fun r => .list (r.map dInstr))) ∧ ∀ H', ProgAt K C H' (.ref p) g → Fm p H H' → Q .non H'
def rPE : Addr → Addr → Hp → Prop := fun a b H => ∃ g, ProgAt K C H (.ref a) g ∧ ProgAt K C H (.ref b) g
def spPN : Sp := fun vs H Q _ => ∃ (x : V) (g : Game), vs = [x] ∧ ProgAt K C H x g ∧ Good g ∧ ∀ p H', Same H H' → H p = none → H' p = some (.lst ((nums g).map V.int)) → Q (.ref p) H'
def spNI : Sp := fun vs H Q _ => ∃ (p dx a : Addr) (ns : List Int), vs = [.ref p, .ref a] ∧ H p = some (.ins CN dx []) ∧ SqL K H a (ns.map V.int) ∧ ∀ l H', RdAt CN H' p l ns 0 → Fm p H H' → Q .non H'
/-- what reads off a reader: p's answer, bearing rel -/
def spRd {α : Type} (p : Rd α) (rel : Hp → V → α → Prop) (r : Addr) (H : Hp) (Q : VK) (E : XK) : Prop := ∃ (l : Addr) (ns : List Int) (i : Nat), RdAt CN H r l ns i ∧
  (∀ x i', p ns i = .ok (x, i') → ∀ v H', RdAt CN H' r l ns i' → Fm r H H' → rel H' v x → Q v H') ∧
  ∀ j, p ns i = .error j → ∀ d H', Fm r H H' → Xd H' d j → E (.ref CB) (some d) H'
def spNT : Sp := fun vs H Q E => ∃ (r : Addr) (lo hi : Int), vs = [.ref r, .int lo, .int hi] ∧ spRd CN CB (take1 lo hi) (fun _ v x => v = .int x) r H Q E
def spNC : Sp := fun vs H Q E => ∃ r : Addr, vs = [.ref r] ∧ spRd CN CB codeP (fun H' v x => Dp K (fresh H H') v (.list (x.map dInstr))) r H Q E
def spRP : Sp := fun vs H Q E => ∃ (a : Addr) (ns : List Int), vs = [.ref a] ∧ SqL K H a (ns.map V.int) ∧ (∀ g, readP ns = .ok g → ∀ x H', Same H H' → ProgAt K C H' x g → Q x H') ∧
  ∀ j, readP ns = .error j → ∀ d H', Same H H' → Xd H' d j → E (.ref CB) (some d) H'
def spPool : Sp := fun vs H Q _ => ∃ (a : Addr) (ns : List Int), vs = [.ref a, .int 0] ∧ SqL K H a (ns.map V.int) ∧ ∀ p c H', Same H H' → H p = none → Pool H' p c → Q (.ref p) H'
def spDraw : Sp := fun vs H Q _ => ∃ (a c : Addr) (n : Int), vs = [.ref a, .int n] ∧ Pool H a c ∧ 1 ≤ n ∧ n ≤ 65536 ∧ ∀ v H', 0 ≤ v → v < n → Pool H' a c → Fm a H H' → Q (.int v) H'
def spFew : Sp := fun vs H Q _ => ∃ (a c : Addr) (n : Int), vs = [.ref a, .int n] ∧ Pool H a c ∧ 0 ≤ n ∧ n ≤ 65535 ∧ ∀ v H', 0 ≤ v → v ≤ n → Pool H' a c → Fm a H H' → Q (.int v) H'
def spNum : Sp := fun vs H Q _ => ∃ a c : Addr, vs = [.ref a] ∧ Pool H a c ∧ ∀ v H', 0 ≤ v → v ≤ 65535 → Pool H' a c → Fm a H H' → Q (.int v) H'
/-- data of bools, ints, texts, at most n deep -/
def Dep : Nat → PyData → Prop
  | 0, d => (∃ b, d = .bool b) ∨ (∃ i, d = .int i) ∨ ∃ x, d = .str x
  | n + 1, d => Dep 0 d ∨ ∃ ds : List PyData, (d = .list ds ∨ d = .tuple ds) ∧ ds.length ≤ 1000 ∧ ∀ x ∈ ds, Dep n x
def spSame (n : Nat) : Sp := fun vs H Q _ => ∃ (x y : V) (d : PyData), vs = [x, y] ∧ Dp K H x d ∧ Dp K H y d ∧ Dep n d ∧ Q (.bl true) H
def spNoc : Sp := fun vs H Q _ => vs = [] ∧ ∀ p H', Same H H' → H p = none → H' p = some (.lst (names.map V.str)) → Q (.ref p) H'
def spRow : Sp := fun vs H Q _ => ∃ a c : Addr, vs = [.ref a] ∧ Pool H a c ∧ ∀ g v H', Good g → Pool H' a c → Fm a H H' → Dp K (off a H') v (dRow g) → Q v H'
def spLN : Sp := fun vs H Q _ => ∃ (v : V) (g : Game), vs = [v] ∧ Good g ∧ Dp K H v (dRow g) ∧ ∀ p H', Same H H' → H p = none → Dp K H' (.ref p) (dRows (rows g)) → Q (.ref p) H'
def spLR : Sp := fun vs H Q _ => ∃ (a : Addr) (ns : List Int), vs = [.ref a] ∧ H a = some (.lst (ns.map V.int)) ∧
  (∀ g, readP ns = .ok g → ∀ x H', Same H H' → Dp K H' x (.tuple [.str "read", .list [dSizes g.sizes, dMoves g.moves, dRounds g.rounds], .bool true]) → Q x H') ∧
  ∀ j, readP ns = .error j → ∀ x H', Same H H' → Dp K H' x (.tuple [.str "refused", .int j, .bool true]) → Q x H'
def spLaw : Sp := fun vs H Q _ => ∃ (a : Addr) (ns : List Int), vs = [.ref a] ∧ SqL K H a (ns.map V.int) ∧ ∀ H', Q (.bl true) H'
end
/-- what the walk asks of the names as the top has made them -/
structure Txt (prog : Program) (K : PySem.W.Frag) (mg : Str → Option Value) (C CN CB CG fI aN : Addr) : Prop where
  bad : PySem.BadX.BadTxt prog K mg CB fI
  clC : Cls K C
  nSi : NoAttr K C "sizes"
  nMo : NoAttr K C "moves"
  nRo : NoAttr K C "rounds"
  mgC : mg "Program" = some (.ref C)
  clN : Cls K CN
  nNu : NoAttr K CN "numbers"
  nAt : NoAttr K CN "at"
  mgN : mg "Numbers" = some (.ref CN)
  greatest : ∃ t, mg "GREATEST" = some (.int 65535 t)
  mostM : ∃ t, mg "MOST_MOVES" = some (.int 8 t)
  mostB : ∃ t, mg "MOST_BRANCHINGS" = some (.int 24 t)
  mostV : ∃ t, mg "MOST_VARIABLES" = some (.int 12 t)
  mostR : ∃ t, mg "MOST_ROUNDS" = some (.int 8 t)
  mgA : mg "NAMES" = some (.ref aN)
  namesT : ∃ (o : Obj) (its : Array Value) (n : Nat), K.lookup aN = some o ∧ o.cls = .type "tuple" ∧ o.dict = none ∧ o.data = .seq its n ∧ Vals (names.map V.str) its.toList
  mgG : mg "GameError" = some (.ref CG)
  len : mg "len" = none
  range : mg "range" = none
  tuple : mg "tuple" = none
  list : mg "list" = none
  isinstance : mg "isinstance" = none
  int : mg "int" = none
  min : mg "min" = none
  bool : mg "bool" = none
  str : mg "str" = none
end K79
/-! The law's small helpers: the names, the pool, the draws. -/
namespace K79
open PySem L2
section
variable {P : Program} {w : World} {K : PySem.W.Frag} {mg : Str → Option Value} {base : Heap} {C CN CB CG fI aN : Addr}
theorem scNoc : FnScope ["_law_text"] [] (defScope sNoc) := ⟨rfl, rfl, rfl, by decide +kernel, rfl, by decide +kernel, by decide +kernel⟩
theorem split_names : Txt.split "push load store sign jump skip lot end ask show pay take view long unit back" " " = names := by decide +kernel
theorem ok_noc {f : Addr} {fd : FuncData} (F : Fun K "_law_names_of_code" "_law_names_of_code" sNoc f fd) : FnOk P w K mg base CX0 1 f fd [] spNoc := by
  refine F.ok scNoc (fun vs H Q E h => ?_) (fun cdv A outer s H vs Q E hr h => ?_)
  · obtain ⟨rfl, _⟩ := h
    rfl
  · obtain ⟨rfl, k⟩ := h
    refine ⟨_, pss_cons (ps_set (i := 0) scNoc.nd rfl (Or.inl rfl) pe_str) (pss_one (ps_ret (pe_split (pv 0) pe_str))), ?_⟩
    refine ⟨_, rfl, ⟨_, rfl⟩, _, _, rfl, rfl, by decide +kernel, by decide +kernel, fun p hp => ?_⟩
    rw [split_names]
    exact k p _ (same_upd hp) hp upd_same
theorem scPool : FnScope ["_law_script", "_law_budget"] ["_law_script", "_law_budget"] (defScope sPool) := ⟨rfl, rfl, rfl, by decide +kernel, rfl, by decide +kernel, by decide +kernel⟩
theorem ok_pool {f : Addr} {fd : FuncData} (F : Fun K "_law_pool" "_law_pool" sPool f fd) (T : Txt P K mg C CN CB CG fI aN) : FnOk P w K mg base CX0 1 f fd ["_law_script", "_law_budget"] (spPool K) := by
  refine F.ok scPool (fun vs H Q E h => ?_) (fun cdv A outer s H vs Q E hr h => ?_)
  · obtain ⟨a, ns, rfl, _⟩ := h
    rfl
  · obtain ⟨a, ns, rfl, hS, k⟩ := h
    refine ⟨_, pss_one (ps_ret (pe_lst (pa_cons (pe_callTy call_list_of (by rfl) T.list (by decide +kernel) (pa_cons (pv 0) pa_nil)) (pa_cons pe_int (pa_cons pe_int (pa_cons pe_int (pa_cons pe_int (pa_cons (pv 1) pa_nil)))))))), ?_⟩
    refine ⟨_, rfl, a, _, rfl, .inl hS, fun c hc => ⟨_, rfl, by show 6 ≤ sizeLine; decide, fun p hp => ?_⟩⟩
    have npc : c ≠ p := fun z => by
      rw [← z, upd_same] at hp
      cases hp
    have hp0 : H p = none := (same_upd hc).free hp
    exact k p c _ ((same_upd hc).trans (same_upd hp)) hp0 ⟨ns, 0, 0, 1, 0, 0, upd_same, by rw [upd_ne npc]; exact upd_same, npc, by decide⟩
theorem scDraw : FnScope ["_law_pool_here", "_law_size", "_law_cell", "_law_value"] ["_law_pool_here", "_law_size"] (defScope sDraw) := ⟨rfl, rfl, rfl, by decide +kernel, rfl, by decide +kernel, by decide +kernel⟩
/-- the pool with its numbers told -/
def PoolN (H : Hp) (a c : Addr) (ns : List Int) (p b m k u : Int) : Prop := H a = some (.lst [.ref c, .int p, .int b, .int m, .int k, .int u]) ∧ H c = some (.lst (ns.map V.int)) ∧ c ≠ a ∧ 0 ≤ p
theorem fmod_range {x n : Int} (h : 1 ≤ n) : 0 ≤ x.fmod n ∧ x.fmod n < n := by
  rw [Int.fmod_eq_emod_of_nonneg _ (by omega)]
  exact ⟨Int.emod_nonneg _ (by omega), Int.emod_lt_of_pos _ (by omega)⟩
theorem PoolN.put {H : Hp} {a c : Addr} {ns : List Int} {p b m k u : Int} (h : PoolN H a c ns p b m k u) (p' b' m' k' u' : Int) (hp : 0 ≤ p') : PoolN (upd H a (.lst [.ref c, .int p', .int b', .int m', .int k', .int u'])) a c ns p' b' m' k' u' :=
  ⟨upd_same, by rw [upd_ne h.2.2.1]; exact h.2.1, h.2.2.1, hp⟩
theorem ok_draw {f : Addr} {fd : FuncData} (F : Fun K "_law_draw" "_law_draw" sDraw f fd) (T : Txt P K mg C CN CB CG fI aN) : FnOk P w K mg base CX0 1 f fd ["_law_pool_here", "_law_size"] spDraw := by
  refine F.ok scDraw (fun vs H Q E h => ?_) (fun cdv A outer s H vs Q E hr h => ?_)
  · obtain ⟨a, c, n, rfl, _⟩ := h
    rfl
  · obtain ⟨a, c, n, rfl, ⟨ns, p, b, m, k0, u, h1, h2, hca, hp0⟩, hn1, hn2, k⟩ := h
    refine ⟨_, C8.pss_cut
        (ps_if (PW.pt (pw_and (pt_cmpR op_le (pe_ix ix_list (pv 0) pe_int (fun _ _ => rfl)) pe_int (nomark _))
            (pw_and (pt_cmpR op_le (pe_ix ix_list (pv 0) pe_int (fun _ _ => rfl)) pe_int (nomark _))
              (pw_and1 (pt_cmpR op_lt (pe_ix ix_list (pv 0) pe_int (fun _ _ => rfl)) (pe_callB call_len_seq (by rfl) T.len PySem.boot_len (pa_cons (pe_ix ix_list (pv 0) pe_int (fun _ _ => rfl)) pa_nil)) (nomark _))))))
          (pss_cons (ps_set (i := 2) scDraw.nd rfl (Or.inl rfl) (pe_ix ix_list (pe_ix ix_list (pv 0) pe_int (fun _ _ => rfl)) (pe_ix ix_list (pv 0) pe_int (fun _ _ => rfl)) (fun _ _ => rfl)))
          (pss_cons (ps_asg (pe_op op_add (pe_ix ix_list (pv 0) pe_int (fun _ _ => rfl)) pe_int) (pg_sub (pv 0) pe_int set_list))
          (pss_cons (ps_asg (pe_op op_modN (pe_callTy call_int1 (by rfl) T.int (by decide +kernel) (pa_cons (pe_op op_add (pe_op op_mul (pe_ix ix_list (pv 0) pe_int (fun _ _ => rfl)) pe_int) (pv 2)) pa_nil)) pe_int) (pg_sub (pv 0) pe_int set_list))
          (pss_cons (ps_asg pe_int (pg_sub (pv 0) pe_int set_list))
          (pss_one (ps_if (pt_cmpR op_ge (pv 2) (pe_op op_pow pe_int pe_int) (nomark _)) (pss_one (ps_asg (pv 2) (pg_sub (pv 0) pe_int set_list))) pss_nil))))))
          pss_nil)
      (C8.pss_cut
        (ps_if (pt_cmpR op_gt (pe_ix ix_list (pv 0) pe_int (fun _ _ => rfl)) pe_int (nomark _))
          (pss_cons (ps_set (i := 3) scDraw.nd rfl (Or.inl rfl) (pe_op op_modN (pe_callTy call_int1 (by rfl) T.int (by decide +kernel) (pa_cons (pe_ix ix_list (pv 0) pe_int (fun _ _ => rfl)) pa_nil)) (pv 1)))
          (pss_cons (ps_asg (pe_op op_fdivN (pe_ix ix_list (pv 0) pe_int (fun _ _ => rfl)) (pv 1)) (pg_sub (pv 0) pe_int set_list))
          (pss_cons (ps_asg pe_int (pg_sub (pv 0) pe_int set_list))
          (pss_one (ps_ret (pv 3))))))
          pss_nil)
      (pss_cons (ps_asg (pe_op op_sub (pe_ix ix_list (pv 0) pe_int (fun _ _ => rfl)) pe_int) (pg_sub (pv 0) pe_int set_list))
      (pss_cons (ps_asg (pe_op op_modN (pe_callTy call_int1 (by rfl) T.int (by decide +kernel) (pa_cons (pe_op op_add (pe_op op_mul (pe_ix ix_list (pv 0) pe_int (fun _ _ => rfl)) pe_int) pe_int) pa_nil)) pe_int) (pg_sub (pv 0) pe_int set_list))
      (pss_one (ps_ret (pe_op op_modN (pe_op op_modN (pe_callTy call_int1 (by rfl) T.int (by decide +kernel) (pa_cons (pe_op op_add (pe_op op_mul (pe_ix ix_list (pv 0) pe_int (fun _ _ => rfl)) pe_int) pe_int) pa_nil)) pe_int) (pv 1))))))), ?_⟩
    -- behind the refill
    refine ⟨fun σ' H' => ∃ (v2 : Option V) (p b m k0 u : Int), σ' = [some (.ref a), some (.int n), v2, none] ∧ PoolN H' a c ns p b m k0 u ∧ Fm a H H', ?_, ?_⟩
    · have N0 : PoolN H a c ns p b m k0 u := ⟨h1, h2, hca, hp0⟩
      have skip : ∃ (v2 : Option V) (p b m k0 u : Int), (start ["_law_pool_here", "_law_size", "_law_cell", "_law_value"] [V.ref a, V.int n]) = [some (.ref a), some (.int n), v2, none] ∧ PoolN H a c ns p b m k0 u ∧ Fm a H H := ⟨none, p, b, m, k0, u, rfl, N0, Fm.rfl'⟩
      refine ⟨_, rfl, a, _, 2, _, rfl, rfl, SqL.of h1, rfl, _, _, rfl, rfl, _, rfl, ite2 (fun c1 => ?_) fun c1 => iteF skip⟩
      refine ⟨_, rfl, a, _, 4, _, rfl, rfl, SqL.of h1, rfl, _, _, rfl, rfl, _, rfl, ite2 (fun c2 => ?_) fun c2 => iteF skip⟩
      refine ⟨_, rfl, a, _, 1, _, rfl, rfl, SqL.of h1, rfl, _, rfl, a, _, 0, _, rfl, rfl, SqL.of h1, rfl, c, _, rfl, .inl (SqL.of h2), _, _, rfl, rfl, _, rfl, ite2 (fun c3 => ?_) fun c3 => skip⟩
      have c3 : p < ((ns.map V.int).length : Int) := of_decide_eq_true c3
      rw [List.length_map] at c3
      obtain ⟨j, hj⟩ : ∃ j : Nat, p = (j : Int) := ⟨p.toNat, by omega⟩
      have hjl : j < ns.length := by omega
      -- cell = pool[0][pool[1]]
      refine ⟨_, rfl, a, _, 0, _, rfl, rfl, SqL.of h1, rfl, _, rfl, a, _, 1, _, rfl, rfl, SqL.of h1, rfl, c, _, _, .int ns[j], rfl, rfl, SqL.of h2, at_of hj (by rw [List.getElem?_map, List.getElem?_eq_getElem hjl]; rfl), ?_⟩
      -- pool[1] = pool[1] + 1
      refine ⟨_, rfl, a, _, 1, _, rfl, rfl, SqL.of h1, rfl, _, _, rfl, rfl, _, rfl, a, _, 1, 1, rfl, rfl, h1, rfl, ?_⟩
      have N1 := N0.put (p + 1) b m k0 u (by omega)
      have f1 : Fm a H (upd H a (.lst [.ref c, .int (p + 1), .int b, .int m, .int k0, .int u])) := Fm.upd
      show tSeq _ _ _ _ (upd H a (.lst [.ref c, .int (p + 1), .int b, .int m, .int k0, .int u]))
      generalize upd H a (.lst [.ref c, .int (p + 1), .int b, .int m, .int k0, .int u]) = H1 at N1 f1 ⊢
      -- pool[3] = int(pool[3] * 31 + cell) % 2147483647
      refine ⟨_, rfl, a, _, 3, _, rfl, rfl, SqL.of N1.1, rfl, _, _, rfl, rfl, .inr ⟨by decide, by decide⟩, _, rfl, _, _, rfl, rfl, .inl ⟨_, rfl, _, _, rfl, rfl, (show (2147483647 : Int) ≠ 0 by decide), _, rfl, a, _, 3, 3, rfl, rfl, N1.1, rfl, ?_⟩⟩
      have N2 := N1.put (p + 1) b ((m * 31 + ns[j]).fmod 2147483647) k0 u (by omega)
      have f2 : Fm a H (upd H1 a (.lst [.ref c, .int (p + 1), .int b, .int ((m * 31 + ns[j]).fmod 2147483647), .int k0, .int u])) := f1.trans Fm.upd
      show tSeq _ _ _ _ (upd H1 a (.lst [.ref c, .int (p + 1), .int b, .int ((m * 31 + ns[j]).fmod 2147483647), .int k0, .int u]))
      generalize upd H1 a (.lst [.ref c, .int (p + 1), .int b, .int ((m * 31 + ns[j]).fmod 2147483647), .int k0, .int u]) = H2 at N2 f2 ⊢
      generalize (m * 31 + ns[j]).fmod 2147483647 = m2 at N2
      -- pool[4] = 7
      refine ⟨_, rfl, a, _, 4, 4, rfl, rfl, N2.1, rfl, ?_⟩
      have N3 := N2.put (p + 1) b m2 7 u (by omega)
      have f3 : Fm a H (upd H2 a (.lst [.ref c, .int (p + 1), .int b, .int m2, .int 7, .int u])) := f2.trans Fm.upd
      -- if cell >= 10 ** 18: pool[2] = cell
      refine ⟨_, rfl, _, _, rfl, rfl, ⟨by decide, by decide, by decide⟩, _, _, rfl, rfl, _, rfl, ite2 (fun c4 => ?_) fun c4 => ?_⟩
      · exact ⟨_, rfl, _, rfl, a, _, 2, 2, rfl, rfl, N3.1, rfl, ⟨_, _, _, _, _, _, rfl, N3.put (p + 1) ns[j] m2 7 u (by omega), f3.trans Fm.upd⟩⟩
      · exact ⟨_, _, _, _, _, _, rfl, N3, f3⟩
    · rintro σ' H' ⟨v2, p, b, m, k0, u, rfl, N0, fm⟩
      refine ⟨fun σ' H' => ∃ (v2 : Option V) (p b m k0 u : Int), σ' = [some (.ref a), some (.int n), v2, none] ∧ PoolN H' a c ns p b m k0 u ∧ Fm a H H', ?_, ?_⟩
      · -- if pool[2] > 0
        refine ⟨_, rfl, a, _, 2, _, rfl, rfl, SqL.of N0.1, rfl, _, _, rfl, rfl, _, rfl, ite2 (fun c1 => ?_) fun c1 => ⟨_, _, _, _, _, _, rfl, N0, fm⟩⟩
        refine ⟨_, rfl, a, _, 2, _, rfl, rfl, SqL.of N0.1, rfl, .inl ⟨_, rfl, _, rfl, _, _, rfl, rfl, by omega, ?_⟩⟩
        refine ⟨_, rfl, a, _, 2, _, rfl, rfl, SqL.of N0.1, rfl, _, rfl, _, _, rfl, rfl, ⟨by omega, by omega⟩, _, rfl, a, _, 2, 2, rfl, rfl, N0.1, rfl, ?_⟩
        have N1 := N0.put p (b.fdiv n) m k0 u N0.2.2.2
        have f1 : Fm a H (upd H' a (.lst [.ref c, .int p, .int (b.fdiv n), .int m, .int k0, .int u])) := fm.trans Fm.upd
        show tSeq _ _ _ _ (upd H' a (.lst [.ref c, .int p, .int (b.fdiv n), .int m, .int k0, .int u]))
        generalize upd H' a (.lst [.ref c, .int p, .int (b.fdiv n), .int m, .int k0, .int u]) = H1 at N1 f1 ⊢
        refine ⟨_, rfl, a, _, 4, 4, rfl, rfl, N1.1, rfl, _, rfl, ?_⟩
        have N2 := N1.put p (b.fdiv n) m 0 u N0.2.2.2
        obtain ⟨z1, z2⟩ := fmod_range (x := b) hn1
        exact k _ _ z1 z2 ⟨ns, _, _, _, _, _, N2⟩ (f1.trans Fm.upd)
      · rintro σ2 H2 ⟨v3, p, b, m, k0, u, rfl, N0, fm⟩
        refine ⟨_, rfl, a, _, 4, _, rfl, rfl, SqL.of N0.1, rfl, _, _, rfl, rfl, _, rfl, a, _, 4, 4, rfl, rfl, N0.1, rfl, ?_⟩
        have N1 := N0.put p b m (k0 - 1) u N0.2.2.2
        have f1 : Fm a H (upd H2 a (.lst [.ref c, .int p, .int b, .int m, .int (k0 - 1), .int u])) := fm.trans Fm.upd
        show tSeq _ _ _ _ (upd H2 a (.lst [.ref c, .int p, .int b, .int m, .int (k0 - 1), .int u]))
        generalize upd H2 a (.lst [.ref c, .int p, .int b, .int m, .int (k0 - 1), .int u]) = H1 at N1 f1 ⊢
        refine ⟨_, rfl, a, _, 3, _, rfl, rfl, SqL.of N1.1, rfl, _, _, rfl, rfl, .inr ⟨by decide, by decide⟩, _, _, rfl, rfl, .inl ⟨_, rfl, _, _, rfl, rfl, (show (2147483647 : Int) ≠ 0 by decide), _, rfl, a, _, 3, 3, rfl, rfl, N1.1, rfl, ?_⟩⟩
        have N2 := N1.put p b ((m * 48271 + 12345).fmod 2147483647) (k0 - 1) u N0.2.2.2
        have f2 : Fm a H (upd H1 a (.lst [.ref c, .int p, .int b, .int ((m * 48271 + 12345).fmod 2147483647), .int (k0 - 1), .int u])) := f1.trans Fm.upd
        obtain ⟨z1, z2⟩ := fmod_range (x := ((((m * 48271 + 12345).fmod 2147483647) * 69621 + 7919).fmod 2147483647)) hn1
        exact ⟨_, rfl, a, _, 3, _, rfl, rfl, SqL.of N2.1, rfl, _, _, rfl, rfl, .inr ⟨by decide, by decide⟩, _, _, rfl, rfl, .inl ⟨_, rfl, _, _, rfl, rfl, (show (2147483647 : Int) ≠ 0 by decide), _, rfl, _, _, rfl, rfl, by omega, k _ _ z1 z2 ⟨ns, _, _, _, _, _, N2⟩ f2⟩⟩
end
end K79
/-! The law's draws that call: few, number; sameness. -/
namespace K79
open PySem L2
/-- a def of the module, called by its name -/
structure Gd (K : PySem.W.Frag) (mg : Str → Option Value) (x : Str) (st : Stmt) (f : Addr) (fd : FuncData) (ps : List Str) : Prop where
  F : Fun K x x st f fd
  m : mg x = some (.ref f)
  b : Binds K fd ps []
section
variable {P : Program} {w : World} {K : PySem.W.Frag} {mg : Str → Option Value} {base : Heap} {C CN CB CG fI aN : Addr}
theorem scFew : FnScope ["_law_pool_here", "_law_most", "_law_few_here"] ["_law_pool_here", "_law_most"] (defScope sFew) := ⟨rfl, rfl, rfl, by decide +kernel, rfl, by decide +kernel, by decide +kernel⟩
theorem ok_few {f fD : Addr} {fd fdD : FuncData} (F : Fun K "_law_few" "_law_few" sFew f fd) (T : Txt P K mg C CN CB CG fI aN) (D : Gd K mg "_law_draw" sDraw fD fdD ["_law_pool_here", "_law_size"]) :
    FnOk P w K mg base CX0 2 f fd ["_law_pool_here", "_law_most"] spFew := by
  have GD : FnOk P w K mg base CX0 1 fD fdD ["_law_pool_here", "_law_size"] spDraw := ok_draw D.F T
  refine F.ok scFew (fun vs H Q E h => ?_) (fun cdv A outer s H vs Q E hr h => ?_)
  · obtain ⟨a, c, n, rfl, _⟩ := h
    rfl
  · obtain ⟨a, c, n, rfl, hP, hn1, hn2, k⟩ := h
    refine ⟨_, pss_cons (ps_set (i := 2) scFew.nd rfl (Or.inl rfl) (pe_call GD hr rfl D.m D.F.kp D.b .nil pass0 (pa_cons (pv 0) (pa_cons pe_int pa_nil))))
      (pss_cons (ps_if (pt_cmpR op_eq (pv 2) pe_int (nomark _)) (pss_one (ps_ret (pe_call GD hr rfl D.m D.F.kp D.b .nil pass0 (pa_cons (pv 0) (pa_cons (pe_op op_add (pv 1) pe_int) pa_nil))))) pss_nil)
      (pss_one (ps_ret (pe_callB (call_min2 rfl) (by rfl) T.min (by decide +kernel) (pa_cons (pv 2) (pa_cons (pv 1) pa_nil)))))), ?_⟩
    refine ⟨_, rfl, a, c, 4, rfl, hP, by decide, by decide, fun v H1 hv0 hv4 hP1 f1 => ?_⟩
    refine ⟨_, rfl, rfl, _, rfl, ite2 (fun c1 => ?_) fun c1 => ?_⟩
    · refine ⟨_, rfl, _, rfl, _, _, rfl, rfl, a, c, n + 1, rfl, hP1, by omega, by omega, fun v2 H2 h1 h2 hP2 f2 => k v2 H2 h1 (by omega) hP2 (f1.trans f2)⟩
    · refine ⟨_, rfl, _, rfl, _, _, rfl, ?_⟩
      by_cases c2 : n < v
      · rw [if_pos c2]
        exact k n H1 hn1 (Int.le_refl _) hP1 f1
      · rw [if_neg c2]
        exact k v H1 hv0 (by omega) hP1 f1
theorem scNum : FnScope ["_law_pool_here"] ["_law_pool_here"] (defScope sNum) := ⟨rfl, rfl, rfl, by decide +kernel, rfl, by decide +kernel, by decide +kernel⟩
theorem ok_num {f fD : Addr} {fd fdD : FuncData} (F : Fun K "_law_number" "_law_number" sNum f fd) (T : Txt P K mg C CN CB CG fI aN) (D : Gd K mg "_law_draw" sDraw fD fdD ["_law_pool_here", "_law_size"]) :
    FnOk P w K mg base CX0 2 f fd ["_law_pool_here"] spNum := by
  have GD : FnOk P w K mg base CX0 1 fD fdD ["_law_pool_here", "_law_size"] spDraw := ok_draw D.F T
  refine F.ok scNum (fun vs H Q E h => ?_) (fun cdv A outer s H vs Q E hr h => ?_)
  · obtain ⟨a, c, rfl, _⟩ := h
    rfl
  · obtain ⟨a, c, rfl, hP, k⟩ := h
    refine ⟨_, pss_cons (ps_if (pt_cmpR op_eq (pe_call GD hr rfl D.m D.F.kp D.b .nil pass0 (pa_cons (pv 0) (pa_cons pe_int pa_nil))) pe_int (nomark _))
        (pss_one (ps_ret (pe_call GD hr rfl D.m D.F.kp D.b .nil pass0 (pa_cons (pv 0) (pa_cons pe_int pa_nil))))) pss_nil)
      (pss_one (ps_ret (pe_call GD hr rfl D.m D.F.kp D.b .nil pass0 (pa_cons (pv 0) (pa_cons pe_int pa_nil))))), ?_⟩
    refine ⟨_, rfl, a, c, 3, rfl, hP, by decide, by decide, fun v H1 hv0 hv4 hP1 f1 => ⟨rfl, _, rfl, ite2 (fun c1 => ?_) fun c1 => ?_⟩⟩
    · exact ⟨_, rfl, a, c, 65536, rfl, hP1, by decide, by decide, fun v2 H2 h1 h2 hP2 f2 => k v2 H2 h1 (by omega) hP2 (f1.trans f2)⟩
    · exact ⟨_, rfl, a, c, 9, rfl, hP1, by decide, by decide, fun v2 H2 h1 h2 hP2 f2 => k v2 H2 h1 (by omega) hP2 (f1.trans f2)⟩
end
end K79
/-! _law_same of the same data: True. -/
namespace K79
open PySem L2
section
variable {P : Program} {w : World} {K : PySem.W.Frag} {mg : Str → Option Value} {base : Heap} {C CN CB CG fI aN : Addr}
theorem scSame : FnScope ["_law_actual", "_law_due", "_law_k"] ["_law_actual", "_law_due"] (defScope sSame) := ⟨rfl, rfl, rfl, by decide +kernel, rfl, by decide +kernel, by decide +kernel⟩
theorem ty_list {H : Hp} {a : Addr} {xs : List V} (h : SqL K H a xs) : TyX K H (.ref a) (.type "list") := by
  rcases h with (h | ⟨o, h⟩) | ⟨o, its, n, hk, hc, _⟩
  · exact .base (.lst h)
  · exact .base (.frz h)
  · exact .kList hk hc
theorem ty_tup {H : Hp} {a : Addr} {xs : List V} (h : SqT K H a xs) : TyX K H (.ref a) (.type "tuple") := by
  rcases h with (h | ⟨o, h⟩) | ⟨o, its, n, hk, hc, _⟩
  · exact .base (.tup h)
  · exact .fTuple h
  · exact .kTuple hk hc
/-- a list or a tuple at a: its items -/
def SqA (K : PySem.W.Frag) (H : Hp) (a : Addr) (xs : List V) : Prop := SqL K H a xs ∨ SqT K H a xs
theorem rix_of {H : Hp} {a : Addr} {xs : List V} {i : Nat} {v : V} {Q : VK} (h : SqA K H a xs) (e : xs[i]? = some v) (q : Q v H) : rIx K (.ref a) (.int (0 + (i : Int))) H Q := by
  rcases h with h | h
  · exact .inl ⟨a, xs, _, v, rfl, rfl, h, at_of (by omega) e, q⟩
  · exact .inr (.inl ⟨a, xs, _, v, rfl, rfl, h, at_of (by omega) e, q⟩)
def spS : Nat → Sp
  | 0 => fun _ _ _ _ => False
  | n + 1 => spSame K n
theorem dep_zero {d : PyData} (h : Dep 0 d) : (∃ b, d = .bool b) ∨ (∃ i, d = .int i) ∨ ∃ x, d = .str x := by
  unfold Dep at h
  exact h
theorem dep_succ {n : Nat} {d : PyData} (h : Dep (n + 1) d) : Dep 0 d ∨ ∃ ds : List PyData, (d = .list ds ∨ d = .tuple ds) ∧ ds.length ≤ 1000 ∧ ∀ x ∈ ds, Dep n x := by
  rw [Dep] at h
  exact h
def Which (K : PySem.W.Frag) (H : Hp) (n : Nat) (x y : V) : Prop := (∃ b, x = .bl b ∧ y = .bl b) ∨ (∃ i, x = .int i ∧ y = .int i) ∨ (∃ z, x = .str z ∧ y = .str z) ∨
        ∃ (a b : Addr) (xs ys : List V) (t : String) (bT bL : Bool), x = .ref a ∧ y = .ref b ∧ TyX K H (.ref a) (.type t) ∧ TyX K H (.ref b) (.type t) ∧ kitB t "tuple" = some bT ∧ kitB t "list" = some bL ∧ (bT = true ∨ bL = true) ∧
          SqA K H a xs ∧ SqA K H b ys ∧ xs.length = ys.length ∧ ys.length ≤ 1000 ∧ ∀ (i : Nat) (u v : V), xs[i]? = some u → ys[i]? = some v → ∀ (Q' : VK) (E' : XK), Q' (.bl true) H → spS (K := K) n [u, v] H Q' E'
theorem same_step {f : Addr} {fd : FuncData} {n : Nat} (D : Gd K mg "_law_same" sSame f fd ["_law_actual", "_law_due"]) (T : Txt P K mg C CN CB CG fI aN)
    (ih : FnOk P w K mg base CX0 n f fd ["_law_actual", "_law_due"] (spS (K := K) n)) : FnOk P w K mg base CX0 (n + 1) f fd ["_law_actual", "_law_due"] (spSame K n) := by
  refine D.F.ok scSame (fun vs H Q E h => ?_) (fun cdv A outer s H vs Q E hr h => ?_)
  · obtain ⟨x, y, d, rfl, _⟩ := h
    rfl
  · obtain ⟨x, y, d, rfl, hx, hy, hd, k⟩ := h
    have tT : kitB "tuple" "tuple" = some true := by decide +kernel
    refine ⟨_, pss_cons (ps_if (PW.pt (pw_or (pt_val (pe_callB call_isi (by rfl) T.isinstance (by decide +kernel) (pa_cons (pv 1) (pa_cons (pe_bltn (v := .ty "tuple") (by rfl) T.tuple (by decide +kernel) rfl) pa_nil))))
          (pw_or1 (pt_val (pe_callB call_isi (by rfl) T.isinstance (by decide +kernel) (pa_cons (pv 1) (pa_cons (pe_bltn (v := .ty "list") (by rfl) T.list (by decide +kernel) rfl) pa_nil)))))))
        (pss_cons (ps_if (PW.pt (pw_or
            (pt_cmpR op_ne (pe_callB call_isi (by rfl) T.isinstance (by decide +kernel) (pa_cons (pv 1) (pa_cons (pe_bltn (v := .ty "tuple") (by rfl) T.tuple (by decide +kernel) rfl) pa_nil)))
              (pe_callB call_isi (by rfl) T.isinstance (by decide +kernel) (pa_cons (pv 0) (pa_cons (pe_bltn (v := .ty "tuple") (by rfl) T.tuple (by decide +kernel) rfl) pa_nil))) (nomark _))
            (pw_or1 (pt_cmpR op_ne (pe_callB call_isi (by rfl) T.isinstance (by decide +kernel) (pa_cons (pv 1) (pa_cons (pe_bltn (v := .ty "list") (by rfl) T.list (by decide +kernel) rfl) pa_nil)))
              (pe_callB call_isi (by rfl) T.isinstance (by decide +kernel) (pa_cons (pv 0) (pa_cons (pe_bltn (v := .ty "list") (by rfl) T.list (by decide +kernel) rfl) pa_nil))) (nomark _)))))
            (pss_one (ps_ret pe_bl)) pss_nil)
        (pss_cons (ps_if (pt_cmpR op_ne (pe_callB call_len_seq (by rfl) T.len PySem.boot_len (pa_cons (pv 0) pa_nil)) (pe_callB call_len_seq (by rfl) T.len PySem.boot_len (pa_cons (pv 1) pa_nil)) (nomark _)) (pss_one (ps_ret pe_bl)) pss_nil)
        (pss_cons (ps_for PassesOwn.never rfl (pi_range1 (by rfl) T.range (pa_cons (pe_callB call_len_seq (by rfl) T.len PySem.boot_len (pa_cons (pv 1) pa_nil)) pa_nil)) (pg_name (i := 2) scSame.nd rfl (Or.inl rfl))
          (pss_one (ps_if (pt_not (pt_val (pe_call ih hr rfl D.m D.F.kp D.b .nil pass0 (pa_cons (pe_ix ix_seq (pv 0) (pv 2) (fun _ _ => rfl)) (pa_cons (pe_ix ix_seq (pv 1) (pv 2) (fun _ _ => rfl)) pa_nil))))) (pss_one (ps_ret pe_bl)) pss_nil)))
        (pss_one (ps_ret pe_bl))))) pss_nil)
      (pss_cons (ps_if (PW.pt (pw_or (pt_cmpR op_isN (pv 1) pe_non (nomark _)) (pw_or1 (pt_val (pe_callB call_isi (by rfl) T.isinstance (by decide +kernel) (pa_cons (pv 1) (pa_cons (pe_bltn (v := .ty "bool") (by rfl) T.bool (by decide +kernel) rfl) pa_nil)))))))
        (pss_one (ps_ret (pe_and (pe_cmpR op_eq (pe_cmpR op_isN (pv 0) pe_non (nomark _)) (pe_cmpR op_isN (pv 1) pe_non (nomark _)) (nomark _))
          (pe_and (pe_or (pe_cmpR op_isN (pv 1) pe_non (nomark _)) (pe_one (pe_callB call_isi (by rfl) T.isinstance (by decide +kernel) (pa_cons (pv 0) (pa_cons (pe_bltn (v := .ty "bool") (by rfl) T.bool (by decide +kernel) rfl) pa_nil)))))
          (pe_one (pe_cmpR op_eq (pv 0) (pv 1) (nomark _))))))) pss_nil)
      (pss_cons (ps_if (pt_val (pe_callB call_isi (by rfl) T.isinstance (by decide +kernel) (pa_cons (pv 1) (pa_cons (pe_bltn (v := .ty "int") (by rfl) T.int (by decide +kernel) rfl) pa_nil))))
        (pss_one (ps_ret (pe_and (pe_callB call_isi (by rfl) T.isinstance (by decide +kernel) (pa_cons (pv 0) (pa_cons (pe_bltn (v := .ty "int") (by rfl) T.int (by decide +kernel) rfl) pa_nil)))
          (pe_and (pe_not (pe_callB call_isi (by rfl) T.isinstance (by decide +kernel) (pa_cons (pv 0) (pa_cons (pe_bltn (v := .ty "bool") (by rfl) T.bool (by decide +kernel) rfl) pa_nil))))
          (pe_one (pe_cmpR op_eq (pv 0) (pv 1) (nomark _))))))) pss_nil)
      (pss_one (ps_ret (pe_and (pe_callB call_isi (by rfl) T.isinstance (by decide +kernel) (pa_cons (pv 0) (pa_cons (pe_bltn (v := .ty "str") (by rfl) T.str (by decide +kernel) rfl) pa_nil)))
        (pe_one (pe_cmpR op_eq (pv 0) (pv 1) (nomark _)))))))), ?_⟩
    -- which data
    have which : Which K H n x y := by
      have atom : Dep 0 d → Which K H n x y := fun h0 => by
        rcases dep_zero h0 with ⟨b, rfl⟩ | ⟨i, rfl⟩ | ⟨z, rfl⟩
        · cases hx
          cases hy
          exact .inl ⟨b, rfl, rfl⟩
        · cases hx
          cases hy
          exact .inr (.inl ⟨i, rfl, rfl⟩)
        · cases hx
          cases hy
          exact .inr (.inr (.inl ⟨z, rfl, rfl⟩))
      cases n with
      | zero => exact atom hd
      | succ m =>
        rcases dep_succ hd with hd | ⟨ds, hds, hlen, hdeep⟩
        · exact atom hd
        · have elt : ∀ {xs ys : List V}, DpAll K H xs ds → DpAll K H ys ds → ∀ (i : Nat) (u v : V), xs[i]? = some u → ys[i]? = some v → ∀ (Q' : VK) (E' : XK), Q' (.bl true) H → spS (K := K) (m + 1) [u, v] H Q' E' := fun {xs ys} h1 h2 i u v e1 e2 Q' E' q => by
            obtain ⟨d1, z1, q1⟩ := h1.get e1
            obtain ⟨d2, z2, q2⟩ := h2.get e2
            rw [z1] at z2
            cases z2
            exact ⟨u, v, d1, rfl, q1, q2, hdeep d1 (List.mem_of_getElem? z1), q⟩
          rcases hds with rfl | rfl
          · cases hx with
            | lst hs1 ha1 =>
              cases hy with
              | lst hs2 ha2 => exact .inr (.inr (.inr ⟨_, _, _, _, "list", false, true, rfl, rfl, ty_list hs1, ty_list hs2, by decide +kernel, by decide +kernel, .inr rfl, .inl hs1, .inl hs2, ha1.len.trans ha2.len.symm, by rw [ha2.len]; exact hlen, elt ha1 ha2⟩))
          · cases hx with
            | tup hs1 ha1 =>
              cases hy with
              | tup hs2 ha2 => exact .inr (.inr (.inr ⟨_, _, _, _, "tuple", true, false, rfl, rfl, ty_tup hs1, ty_tup hs2, by decide +kernel, by decide +kernel, .inl rfl, .inr hs1, .inr hs2, ha1.len.trans ha2.len.symm, by rw [ha2.len]; exact hlen, elt ha1 ha2⟩))
    rcases which with ⟨b, rfl, rfl⟩ | ⟨i, rfl, rfl⟩ | ⟨z, rfl, rfl⟩ | ⟨a, b, xs, ys, t, bT, bL, rfl, rfl, ty1, ty2, kT, kL, hTL, hs1, hs2, hll, hlen, elt⟩
    · have ty : TyX K H (.bl b) (.type "bool") := .base (.bl b)
      refine ⟨_, rfl, _, _, _, _, false, rfl, .ty _, ty, kit_ty (by decide +kernel), _, rfl, iteF ?_⟩
      refine ⟨_, rfl, _, _, _, _, false, rfl, .ty _, ty, kit_ty (by decide +kernel), _, rfl, iteF ?_⟩
      refine ⟨_, rfl, rfl, _, rfl, ite2 (fun c => ?_) fun c => ?_⟩
      · exact absurd (of_decide_eq_true c) (by intro q; cases q)
      refine ⟨_, rfl, _, _, _, _, true, rfl, .ty _, ty, kit_ty (by decide +kernel), _, rfl, iteT ?_⟩
      refine ⟨_, rfl, rfl, _, rfl, rfl, rfl, _, rfl, ?_⟩
      refine iteT ⟨_, rfl, rfl, _, rfl, ite2 (fun c => ?_) fun c => ?_⟩
      · exact absurd (of_decide_eq_true c) (by intro q; cases q)
      refine ⟨_, rfl, _, _, _, _, true, rfl, .ty _, ty, kit_ty (by decide +kernel), _, rfl, iteT ⟨_, rfl, _, rfl, by cases b <;> rfl, ?_⟩⟩
      rw [decide_eq_true rfl]
      exact k
    · have ty : TyX K H (.int i) (.type "int") := .base (.int i)
      refine ⟨_, rfl, _, _, _, _, false, rfl, .ty _, ty, kit_ty (by decide +kernel), _, rfl, iteF ?_⟩
      refine ⟨_, rfl, _, _, _, _, false, rfl, .ty _, ty, kit_ty (by decide +kernel), _, rfl, iteF ?_⟩
      refine ⟨_, rfl, rfl, _, rfl, ite2 (fun c => ?_) fun c => ?_⟩
      · exact absurd (of_decide_eq_true c) (by intro q; cases q)
      refine ⟨_, rfl, _, _, _, _, false, rfl, .ty _, ty, kit_ty (by decide +kernel), _, rfl, iteF ?_⟩
      refine ⟨_, rfl, _, _, _, _, true, rfl, .ty _, ty, kit_ty (by decide +kernel), _, rfl, iteT ?_⟩
      refine ⟨_, rfl, _, _, _, _, true, rfl, .ty _, ty, kit_ty (by decide +kernel), _, rfl, iteT ?_⟩
      refine ⟨_, rfl, _, _, _, _, false, rfl, .ty _, ty, kit_ty (by decide +kernel), _, rfl, _, rfl, iteT ⟨_, rfl, _, rfl, rfl, ?_⟩⟩
      rw [decide_eq_true rfl]
      exact k
    · have ty : TyX K H (.str z) (.type "str") := .base (.str z)
      refine ⟨_, rfl, _, _, _, _, false, rfl, .ty _, ty, kit_ty (by decide +kernel), _, rfl, iteF ?_⟩
      refine ⟨_, rfl, _, _, _, _, false, rfl, .ty _, ty, kit_ty (by decide +kernel), _, rfl, iteF ?_⟩
      refine ⟨_, rfl, rfl, _, rfl, ite2 (fun c => ?_) fun c => ?_⟩
      · exact absurd (of_decide_eq_true c) (by intro q; cases q)
      refine ⟨_, rfl, _, _, _, _, false, rfl, .ty _, ty, kit_ty (by decide +kernel), _, rfl, iteF ?_⟩
      refine ⟨_, rfl, _, _, _, _, false, rfl, .ty _, ty, kit_ty (by decide +kernel), _, rfl, iteF ?_⟩
      refine ⟨_, rfl, _, _, _, _, true, rfl, .ty _, ty, kit_ty (by decide +kernel), _, rfl, iteT ⟨_, rfl, _, rfl, rfl, ?_⟩⟩
      rw [decide_eq_true rfl]
      exact k
    · refine ⟨_, rfl, _, _, _, _, bT, rfl, .ty _, ty2, kit_ty (kT), _, rfl, ?_⟩
      cases bT
      all_goals first
        | refine iteT (iteT ?_)
        | (have hL : bL = true := hTL.resolve_left (by decide)
           subst hL
           refine iteF ⟨_, rfl, _, _, _, _, true, rfl, .ty _, ty2, kit_ty (kL), _, rfl, iteT ?_⟩)
      all_goals
        refine ⟨_, rfl, _, _, _, _, _, rfl, .ty _, ty2, kit_ty (kT), _, rfl, _, _, _, _, _, rfl, .ty _, ty1, kit_ty (kT), rfl, _, rfl, iteNS rfl ?_⟩
        refine ⟨_, rfl, _, _, _, _, _, rfl, .ty _, ty2, kit_ty (kL), _, rfl, _, _, _, _, _, rfl, .ty _, ty1, kit_ty (kL), rfl, _, rfl, iteNS rfl ?_⟩
        refine ⟨_, rfl, a, xs, rfl, hs1, _, rfl, b, ys, rfl, hs2, rfl, _, rfl, iteNS (by rw [hll]) ?_⟩
        refine ⟨_, rfl, b, ys, rfl, hs2, _, rfl, by omega, by omega, for_range (lo := 0) (n := ((ys.length : Nat) : Int).toNat) (fun i σ H' => H' = H ∧ ∃ v, σ = [some (.ref a), some (.ref b), v]) ⟨rfl, none, rfl⟩ ?_ ?_⟩
        · rintro i σ H' hi ⟨rfl, v, rfl⟩
          have hi1 : i < ys.length := by omega
          have hi0 : i < xs.length := by omega
          refine ⟨_, rfl, _, rfl, rix_of hs1 (List.getElem?_eq_getElem hi0) ⟨_, rfl, _, rfl, rix_of hs2 (List.getElem?_eq_getElem hi1) (elt i _ _ (List.getElem?_eq_getElem hi0) (List.getElem?_eq_getElem hi1) _ _ ⟨_, rfl, iteF ⟨rfl, _, rfl⟩⟩)⟩⟩
        · rintro σ H' ⟨rfl, v, rfl⟩
          exact k
theorem dep_atom {n : Nat} {d : PyData} (h : Dep 0 d) : Dep n d := by
  cases n with
  | zero => exact h
  | succ n =>
    rw [Dep]
    exact .inl h
theorem dep_int (n : Nat) (i : Int) : Dep n (.int i) := dep_atom (by unfold Dep; exact .inr (.inl ⟨i, rfl⟩))
theorem dep_bl (n : Nat) (b : Bool) : Dep n (.bool b) := dep_atom (by unfold Dep; exact .inl ⟨b, rfl⟩)
theorem dep_str (n : Nat) (x : Str) : Dep n (.str x) := dep_atom (by unfold Dep; exact .inr (.inr ⟨x, rfl⟩))
theorem dep_list {n : Nat} {ds : List PyData} (hl : ds.length ≤ 1000) (h : ∀ x ∈ ds, Dep n x) : Dep (n + 1) (.list ds) := by
  rw [Dep]
  exact .inr ⟨ds, .inl rfl, hl, h⟩
theorem dep_tup {n : Nat} {ds : List PyData} (hl : ds.length ≤ 1000) (h : ∀ x ∈ ds, Dep n x) : Dep (n + 1) (.tuple ds) := by
  rw [Dep]
  exact .inr ⟨ds, .inr rfl, hl, h⟩
/-- at every depth -/
theorem ok_same {f : Addr} {fd : FuncData} (D : Gd K mg "_law_same" sSame f fd ["_law_actual", "_law_due"]) (T : Txt P K mg C CN CB CG fI aN) : ∀ n : Nat, FnOk P w K mg base CX0 (n + 1) f fd ["_law_actual", "_law_due"] (spSame K n)
  | 0 => same_step D T ⟨fun _ _ _ _ h => h.elim, fun _ _ _ _ _ _ _ _ _ _ _ _ _ h => h.elim⟩
  | n + 1 => same_step D T (ok_same D T n)
end
end K79
/-! _law_row: a drawn game. -/
namespace K79
open PySem L2
/-! ### frames by a list of addresses -/
def FmS (S : List Addr) (H H' : Hp) : Prop := ∀ b o, H b = some o → b ∉ S → H' b = some o
def offS (S : List Addr) (H : Hp) : Hp := fun b => if b ∈ S then none else H b
section
variable {S S' : List Addr} {H H1 H2 H' : Hp} {p : Addr} {o : HO}
theorem FmS.rfl' : FmS S H H := fun _ _ e _ => e
theorem FmS.trans (x : FmS S H H1) (y : FmS S H1 H2) : FmS S H H2 := fun b u e n => y b u (x b u e n) n
theorem FmS.mono (x : FmS S H H1) (h : ∀ b ∈ S, b ∈ S') : FmS S' H H1 := fun b u e n => x b u e fun z => n (h b z)
theorem FmS.of (x : Same H H1) : FmS S H H1 := fun b u e _ => x b u e
theorem FmS.fm {a : Addr} (x : Fm a H H1) (h : a ∈ S) : FmS S H H1 := fun b u e n => x b u e fun z => n (by rw [z]; exact h)
theorem FmS.set (h : p ∈ S) : FmS S H (upd H p o) := fun b u e n => by rw [upd_ne (fun z => n (by rw [z]; exact h))]; exact e
theorem FmS.new (h : H p = none) : FmS S H (upd H p o) := FmS.of (same_upd h)
/-- what was made since is free to change -/
theorem FmS.drop {D : Addr} (x : FmS (D :: S) H H1) (h : H D = none) : FmS S H H1 := fun b u e n => x b u e fun z => by
  rcases List.mem_cons.mp z with q | q
  · rw [q, h] at e
    cases e
  · exact n q
theorem FmS.same1 {D : Addr} (x : FmS [D] H H1) (h : H D = none) : Same H H1 := fun b u e => x b u e fun z => by
  have q : b = D := by simpa using z
  rw [q, h] at e
  cases e
theorem offS_at {b : Addr} (e : H b = some o) (n : b ∉ S) : offS S H b = some o := by
  show (if b ∈ S then none else H b) = _
  rw [if_neg n]
  exact e
theorem offS_get {b : Addr} (e : offS S H b = some o) : H b = some o ∧ b ∉ S := by
  have e : (if b ∈ S then none else H b) = some o := e
  by_cases n : b ∈ S
  · rw [if_pos n] at e
    cases e
  · rw [if_neg n] at e
    exact ⟨e, n⟩
theorem FmS.off (x : FmS S H H1) : Same (offS S H) (offS S H1) := fun b u e => offS_at (x b u (offS_get e).1 (offS_get e).2) (offS_get e).2
theorem FmS.kp (x : FmS S H H1) : Kp (offS S H) (offS S H1) := Kp.of x.off
theorem offS_less (h : ∀ b ∈ S', b ∈ S) : Same (offS S H) (offS S' H) := fun b u e => offS_at (offS_get e).1 fun z => (offS_get e).2 (h b z)
theorem offS_one {a : Addr} : Same (offS [a] H) (off a H) := fun b u e => off_at (offS_get e).1 fun z => (offS_get e).2 (by rw [z]; exact List.mem_cons_self)
theorem offS_all : Same (offS S H) H := fun _ _ e => (offS_get e).1
end
theorem sub_tl {a D : Addr} : ∀ b ∈ [a], b ∈ [D, a] := fun b h => List.mem_cons_of_mem _ h
theorem ne_of_some {H : Hp} {a b : Addr} {o : HO} (h : H a = some o) (n : H b = none) : b ≠ a := fun z => by
  rw [z, h] at n
  cases n
theorem FmS.free {S : List Addr} {H H1 : Hp} {D : Addr} (x : FmS S H H1) (n : H1 D = none) (hS : D ∉ S) : H D = none := by
  cases e : H D with
  | none => rfl
  | some o =>
    rw [x D o e hS] at n
    cases n
theorem not1 {a b : Addr} (h : b ≠ a) : b ∉ [a] := by simpa using h
theorem not2 {a b c : Addr} (h : b ≠ c) (h2 : b ≠ a) : b ∉ [c, a] := by simp [h, h2]
theorem in1 {a : Addr} : a ∈ [a] := List.mem_cons_self
theorem in2 {a b : Addr} : a ∈ [b, a] := List.mem_cons_of_mem _ List.mem_cons_self
theorem in3 {a b c : Addr} : a ∈ [c, b, a] := List.mem_cons_of_mem _ in2
theorem not3 {a b c d : Addr} (h : b ≠ d) (h2 : b ≠ c) (h3 : b ≠ a) : b ∉ [d, c, a] := by simp [h, h2, h3]
/-- a list D grows by one item, while S may change: what was made of it stands -/
theorem grown {K : PySem.W.Frag} {S : List Addr} {H H' : Hp} {vs : List V} {ds : List PyData} {v : V} {d : PyData} (h : DpAll K (offS S H) vs ds) (x : FmS S H H') (n : Dp K (offS S H') v d) : DpAll K (offS S H') (vs ++ [v]) (ds ++ [d]) :=
  (h.kp x.kp).app (.one n)
theorem nm_at {k : Nat} (h : k < 16) : (names.map V.str)[k]? = some (.str (nm k)) := by
  have hl : names.length = 16 := rfl
  rw [List.getElem?_map, List.getElem?_eq_getElem (by rw [hl]; exact h)]
  show some (V.str names[k]) = _
  unfold nm
  rw [List.getD_eq_getElem?_getD, List.getElem?_eq_getElem (by rw [hl]; exact h)]
  rfl
section
variable {P : Program} {w : World} {K : PySem.W.Frag} {mg : Str → Option Value} {base : Heap} {C CN CB CG fI aN : Addr}
abbrev nRow : List Str := ["_law_pool_here", "_law_k", "_law_sizes", "_law_moves", "_law_rounds", "_law_names", "_law_code", "_law_at"]
theorem scRow : FnScope nRow ["_law_pool_here"] (defScope sRow) := ⟨rfl, rfl, rfl, by decide +kernel, rfl, by decide +kernel, by decide +kernel⟩
theorem ok_row {f fD fF fU fC : Addr} {fd fdD fdF fdU fdC : FuncData} (F : Fun K "_law_row" "_law_row" sRow f fd) (T : Txt P K mg C CN CB CG fI aN) (D : Gd K mg "_law_draw" sDraw fD fdD ["_law_pool_here", "_law_size"])
    (DF : Gd K mg "_law_few" sFew fF fdF ["_law_pool_here", "_law_most"]) (DU : Gd K mg "_law_number" sNum fU fdU ["_law_pool_here"]) (DC : Gd K mg "_law_names_of_code" sNoc fC fdC []) :
    FnOk P w K mg base CX0 3 f fd ["_law_pool_here"] (spRow K) := by
  have GD : FnOk P w K mg base CX0 1 fD fdD ["_law_pool_here", "_law_size"] spDraw := ok_draw D.F T
  have GF : FnOk P w K mg base CX0 2 fF fdF ["_law_pool_here", "_law_most"] spFew := ok_few DF.F T D
  have GU : FnOk P w K mg base CX0 2 fU fdU ["_law_pool_here"] spNum := ok_num DU.F T D
  have GC : FnOk P w K mg base CX0 1 fC fdC [] spNoc := ok_noc DC.F
  refine F.ok scRow (fun vs H Q E h => ?_) (fun cdv A outer s H vs Q E hr h => ?_)
  · obtain ⟨a, c, rfl, _⟩ := h
    rfl
  · obtain ⟨a, c, rfl, hP, k⟩ := h
    have hr1 : Room 1 _ := hr.mono (by decide)
    refine ⟨_, pss_cons (ps_setLc (i := 2) (own := [("_law_k", 1)]) (g := gName 1) (tt := tYes) rfl scRow.nd rfl rfl (sw_true rfl rfl rfl (by decide +kernel))
          (pi_range1 (by rfl) T.range (pa_cons (pe_call GF hr rfl DF.m DF.F.kp DF.b .nil pass0 (pa_cons (pv 0) (pa_cons pe_int pa_nil))) pa_nil)) (blkOk_by (N := nRow) (sc := defScope sRow) (by decide +kernel))
          (fun _ _ _ _ _ => pg_name (i := 1) scRow.nd rfl (Or.inl rfl)) (fun _ _ _ _ _ => pts_nil)
          (fun _ _ _ _ _ => pe_op op_add pe_int (pe_call GD hr1 rfl D.m D.F.kp D.b .nil pass0 (pa_cons (pv 0) (pa_cons pe_int pa_nil)))))
      (pss_cons (ps_setLc (i := 3) (own := [("_law_k", 1)]) (g := gName 1) (tt := tYes) rfl scRow.nd rfl rfl (sw_true rfl rfl rfl (by decide +kernel))
          (pi_range1 (by rfl) T.range (pa_cons (pe_call GF hr rfl DF.m DF.F.kp DF.b .nil pass0 (pa_cons (pv 0) (pa_cons pe_int pa_nil))) pa_nil)) (blkOk_by (N := nRow) (sc := defScope sRow) (by decide +kernel))
          (fun _ _ _ _ _ => pg_name (i := 1) scRow.nd rfl (Or.inl rfl)) (fun _ _ _ _ _ => pts_nil)
          (fun _ _ _ _ _ => pe_tup (pa_cons (pe_op op_add pe_int (pe_call GD hr1 rfl D.m D.F.kp D.b .nil pass0 (pa_cons (pv 0) (pa_cons pe_int pa_nil))))
            (pa_cons (pe_op op_add pe_int (pe_call GD hr1 rfl D.m D.F.kp D.b .nil pass0 (pa_cons (pv 0) (pa_cons pe_int pa_nil)))) pa_nil))))
      (pss_cons (ps_set (i := 4) scRow.nd rfl (Or.inl rfl) (pe_lst pa_nil))
      (pss_cons (ps_for PassesOwn.never rfl (pi_range1 (by rfl) T.range (pa_cons (pe_call GF hr rfl DF.m DF.F.kp DF.b .nil pass0 (pa_cons (pv 0) (pa_cons pe_int pa_nil))) pa_nil)) (pg_name (i := 1) scRow.nd rfl (Or.inl rfl))
        (pss_cons (ps_set (i := 5) scRow.nd rfl (Or.inr rfl) (pe_call0 GC hr1 rfl DC.m DC.F.kp DC.b .nil pass0))
        (pss_cons (ps_setLc (i := 6) (own := [("_law_at", 7)]) (g := gName 7) (tt := tYes) rfl scRow.nd rfl rfl (sw_true rfl rfl rfl (by decide +kernel))
          (pi_range1 (by rfl) T.range (pa_cons (pe_call GF hr rfl DF.m DF.F.kp DF.b .nil pass0 (pa_cons (pv 0) (pa_cons pe_int pa_nil))) pa_nil)) (blkOk_by (N := nRow) (sc := defScope sRow) (by decide +kernel))
          (fun _ _ _ _ _ => pg_name (i := 7) scRow.nd rfl (Or.inl rfl)) (fun _ _ _ _ _ => pts_nil)
          (fun _ _ _ _ _ => pe_tup (pa_cons (pe_ix (r := rIxL K) ix_list (pv 5) (pe_call GD hr1 rfl D.m D.F.kp D.b .nil pass0 (pa_cons (pv 0) (pa_cons pe_int pa_nil))) (fun _ _ => rfl))
            (pa_cons (pe_callB (call_min2 rfl) (by rfl) T.min (by decide +kernel) (pa_cons pe_int (pa_cons (pe_call GU hr rfl DU.m DU.F.kp DU.b .nil pass0 (pa_cons (pv 0) pa_nil)) pa_nil))) pa_nil))))
        (pss_one (ps_expr (pe_bm PySem.F.plainAttrs_list PySem.F.slot_list_append PySem.F.type_list_append mt_append (pv 4) (pa_cons (pe_callTy call_tuple_of (by rfl) T.tuple (by decide +kernel) (pa_cons (pv 6) pa_nil)) pa_nil)))))))
      (pss_one (ps_ret (pe_tup (pa_cons (pe_callTy call_tuple_of (by rfl) T.tuple (by decide +kernel) (pa_cons (pv 2) pa_nil)) (pa_cons (pe_callTy call_tuple_of (by rfl) T.tuple (by decide +kernel) (pa_cons (pv 3) pa_nil))
        (pa_cons (pe_callTy call_tuple_of (by rfl) T.tuple (by decide +kernel) (pa_cons (pv 4) pa_nil)) pa_nil))))))))), ?_⟩
    -- sizes
    refine ⟨_, rfl, a, c, 12, rfl, hP, by decide, by decide, fun n1 H1 hn0 hn1 hP1 f1 => ⟨n1, rfl, by omega, by omega, fun D1 hD1 => ?_⟩⟩
    obtain ⟨d1a, d1c⟩ := hP1.ne hD1
    have hD1H : H D1 = none := (FmS.fm f1 in1).free hD1 (not1 d1a)
    refine lc_range (lo := 0) (n := n1.toNat) (fun i H' => Pool H' a c ∧ FmS [a] H H' ∧ ∃ l : List Int, l.length = i ∧ (∀ x ∈ l, 1 ≤ x ∧ x ≤ 65535) ∧ H' D1 = some (.lst (l.map V.int)))
      ⟨hP1.upd d1a d1c, (FmS.fm f1 in1).trans (FmS.new hD1), [], rfl, by simp, upd_same⟩ ?_ ?_
    · rintro i H' hi ⟨hP', fm', l, hl, hrg, hD⟩
      refine ⟨rfl, _, rfl, a, c, 65535, rfl, hP', by decide, by decide, fun v H2 v0 v1 hP2 f2 => ⟨_, _, rfl, rfl, l.map V.int, f2 _ _ hD d1a, small1000 (by rw [List.length_map]; omega), hP2.upd d1a d1c, ?_, l ++ [1 + v], ?_, ?_, ?_⟩⟩
      · exact FmS.drop (((fm'.mono sub_tl).trans (FmS.fm f2 in2)).trans (FmS.set List.mem_cons_self)) hD1H
      · rw [List.length_append, hl]
        rfl
      · intro x hx
        rcases List.mem_append.mp hx with hx | hx
        · exact hrg x hx
        · have e : x = 1 + v := by simpa using hx
          omega
      · rw [List.map_append]
        exact upd_same
    rintro H2 ⟨hP2, fm2, l1, hl1, hr1g, hL1⟩
    -- moves
    refine ⟨_, rfl, a, c, 24, rfl, hP2, by decide, by decide, fun n2 H3 hm0 hm1 hP3 f3 => ⟨n2, rfl, by omega, by omega, fun D2 hD2 => ?_⟩⟩
    obtain ⟨d2a, d2c⟩ := hP3.ne hD2
    have hD2H : H2 D2 = none := (FmS.fm f3 in1).free hD2 (not1 d2a)
    refine lc_range (lo := 0) (n := n2.toNat) (fun i H' => Pool H' a c ∧ FmS [a] H2 H' ∧ ∃ (l : List (Int × Int)) (vs : List V), l.length = i ∧ vs.length = i ∧ (∀ x ∈ l, (1 ≤ x.1 ∧ x.1 ≤ 2) ∧ (1 ≤ x.2 ∧ x.2 ≤ 8)) ∧ H' D2 = some (.lst vs) ∧ DpAll K (offS [D2, a] H') vs (l.map dPair))
      ⟨hP3.upd d2a d2c, (FmS.fm f3 in1).trans (FmS.new hD2), [], [], rfl, rfl, by simp, upd_same, .nil⟩ ?_ ?_
    · rintro i H' hi ⟨hP', fm', l, vs, hl, hvl, hrg, hD, hall⟩
      refine ⟨rfl, _, rfl, a, c, 2, rfl, hP', by decide, by decide, fun v Ha v0 v1 hPa fa => ⟨_, _, rfl, rfl, _, rfl, a, c, 8, rfl, hPa, by decide, by decide, fun u Hb u0 u1 hPb fb => ⟨_, _, rfl, rfl, by show 2 ≤ sizeLine; decide, fun t ht => ?_⟩⟩⟩
      obtain ⟨ta, tc⟩ := hPb.ne ht
      have hDb : Hb D2 = some (.lst vs) := fb _ _ (fa _ _ hD d2a) d2a
      have td : t ≠ D2 := ne_of_some hDb ht
      refine ⟨vs, by rw [upd_ne (Ne.symm td)]; exact hDb, small1000 (by omega), ((hPb.upd ta tc).upd d2a d2c), ?_, l ++ [(1 + v, 1 + u)], vs ++ [.ref t], ?_, ?_, ?_, upd_same, ?_⟩
      · exact FmS.drop (((((fm'.mono sub_tl).trans (FmS.fm fa in2)).trans (FmS.fm fb in2)).trans (FmS.new ht)).trans (FmS.set List.mem_cons_self)) hD2H
      · rw [List.length_append, hl]
        rfl
      · rw [List.length_append, hvl]
        rfl
      · intro x hx
        rcases List.mem_append.mp hx with hx | hx
        · exact hrg x hx
        · have e : x = (1 + v, 1 + u) := by simpa using hx
          subst e
          exact ⟨⟨by show 1 ≤ 1 + v; omega, by show 1 + v ≤ 2; omega⟩, by show 1 ≤ 1 + u; omega, by show 1 + u ≤ 8; omega⟩
      · rw [List.map_append]
        refine grown hall ((((FmS.fm fa in2).trans (FmS.fm fb in2)).trans (FmS.new ht)).trans (FmS.set List.mem_cons_self)) (.tup (SqT.of (offS_at ?_ (not2 td ta))) (.cons (.int _) (.cons (.int _) .nil)))
        rw [upd_ne td]
        exact upd_same
    rintro H4 ⟨hP4, fm4, l2, vs2, hl2, hvl2, hr2g, hL2, hA2⟩
    have hL1' : H4 D1 = some (.lst (l1.map V.int)) := fm4 _ _ hL1 (not1 d1a)
    -- rounds = []
    refine ⟨by show 0 ≤ sizeLine; decide, fun R hR => ?_⟩
    obtain ⟨ra, rc⟩ := hP4.ne hR
    have hP5 : Pool (upd H4 R (.lst [])) a c := hP4.upd ra rc
    have s45 : Same H4 (upd H4 R (.lst [])) := same_upd hR
    have hR5 : (upd H4 R (.lst [])) R = some (.lst []) := upd_same
    generalize hH5 : upd H4 R (.lst []) = H5 at hP5 s45 hR5
    have d1r : D1 ≠ R := Ne.symm (ne_of_some hL1' hR)
    have d2r : D2 ≠ R := Ne.symm (ne_of_some hL2 hR)
    have hRH : H R = none := (fm2.trans fm4).free hR (not1 ra)
    -- for _law_k in range(few(8))
    refine ⟨_, rfl, a, c, 8, rfl, hP5, by decide, by decide, fun n3 H6 hk0 hk1 hP6 f6 => ⟨n3, rfl, by omega, by omega, for_range (lo := 0) (n := n3.toNat) (fun i σ H' => Pool H' a c ∧ FmS [R, a] H5 H' ∧
      (∃ v1 v5 v6 : Option V, σ = [some (.ref a), v1, some (.ref D1), some (.ref D2), some (.ref R), v5, v6, none]) ∧ ∃ (l : List (List (Nat × Int))) (vs : List V), l.length = i ∧ vs.length = i ∧
        (∀ x ∈ l, x.length ≤ 10 ∧ ∀ y ∈ x, y.1 < 16 ∧ 0 ≤ y.2 ∧ y.2 ≤ 65535) ∧ H' R = some (.lst vs) ∧ DpAll K (offS [R, a] H') vs (l.map dCode))
      ⟨hP6, FmS.fm f6 in2, ⟨_, _, _, rfl⟩, [], [], rfl, rfl, by simp, f6 _ _ hR5 ra, .nil⟩ ?_ ?_⟩⟩
    · rintro i σ H' hi ⟨hP', fm', ⟨v1, v5, v6, rfl⟩, l, vs, hl, hvl, hrg, hRl, hall⟩
      -- names
      refine ⟨rfl, fun nl Hn sn hnl hnames => ?_⟩
      have hPn := hP'.same sn
      obtain ⟨na, _⟩ := hP'.ne hnl
      -- code
      refine ⟨_, rfl, a, c, 10, rfl, hPn, by decide, by decide, fun n4 Hc hc0 hc1 hPc fc => ⟨n4, rfl, by omega, by omega, fun D hD => ?_⟩⟩
      obtain ⟨da, dc⟩ := hPc.ne hD
      have hRn := sn _ _ hRl
      have hDn : Hn D = none := (FmS.fm fc in1).free hD (not1 da)
      refine lc_range (lo := 0) (n := n4.toNat) (fun i H' => Pool H' a c ∧ FmS [a] Hn H' ∧ ∃ (l : List (Nat × Int)) (vs : List V), l.length = i ∧ vs.length = i ∧ (∀ y ∈ l, y.1 < 16 ∧ 0 ≤ y.2 ∧ y.2 ≤ 65535) ∧ H' D = some (.lst vs) ∧ DpAll K (offS [D, R, a] H') vs (l.map dInstr))
        ⟨hPc.upd da dc, (FmS.fm fc in1).trans (FmS.new hD), [], [], rfl, rfl, by simp, upd_same, .nil⟩ ?_ ?_
      · rintro j H' hj ⟨hP', fm', l, vs, hl, hvl, hrg, hDl, hall⟩
        have hnm' : H' nl = some (.lst (names.map V.str)) := fm' _ _ hnames (not1 na)
        refine ⟨rfl, _, rfl, _, rfl, a, c, 16, rfl, hP', by decide, by decide, fun v Ha v0 v1 hPa fa => ?_⟩
        refine ⟨nl, _, _, _, rfl, rfl, SqL.of (fa _ _ hnm' na), at_of (j := v.toNat) (by omega) (nm_at (by omega)), _, rfl, a, c, rfl, hPa, fun u Hb u0 u1 hPb fb => ⟨_, _, rfl, ?_⟩⟩
        have eu : (if u < 65535 then u else 65535) = u := by
          by_cases z : u < 65535
          · rw [if_pos z]
          · rw [if_neg z]
            omega
        rw [eu]
        refine ⟨by show 2 ≤ sizeLine; decide, fun t ht => ?_⟩
        obtain ⟨ta, tc⟩ := hPb.ne ht
        have hDb : Hb D = some (.lst vs) := fb _ _ (fa _ _ hDl da) da
        have td : t ≠ D := ne_of_some hDb ht
        have tr : t ≠ R := ne_of_some (fb _ _ (fa _ _ (fm' _ _ hRn (not1 ra)) ra) ra) ht
        refine ⟨vs, by rw [upd_ne (Ne.symm td)]; exact hDb, small1000 (by omega), ((hPb.upd ta tc).upd da dc), ?_, l ++ [(v.toNat, u)], vs ++ [.ref t], ?_, ?_, ?_, upd_same, ?_⟩
        · exact FmS.drop (((((fm'.mono sub_tl).trans (FmS.fm fa in2)).trans (FmS.fm fb in2)).trans (FmS.new ht)).trans (FmS.set List.mem_cons_self)) hDn
        · rw [List.length_append, hl]
          rfl
        · rw [List.length_append, hvl]
          rfl
        · intro x hx
          rcases List.mem_append.mp hx with hx | hx
          · exact hrg x hx
          · have e : x = (v.toNat, u) := by simpa using hx
            subst e
            exact ⟨by show v.toNat < 16; omega, u0, u1⟩
        · rw [List.map_append]
          refine grown hall ((((FmS.fm fa in3).trans (FmS.fm fb in3)).trans (FmS.new ht)).trans (FmS.set List.mem_cons_self)) (.tup (SqT.of (offS_at ?_ (not3 td tr ta))) (.cons (.str _) (.cons (.int _) .nil)))
          rw [upd_ne td]
          exact upd_same
      rintro Hd ⟨hPd, fmd, lc, vc, hlc, hvc, hrc, hDc, hAc⟩
      -- rounds.append(tuple(code))
      have fmn : FmS [a] H' Hd := (FmS.of sn).trans fmd
      have hRd : Hd R = some (.lst vs) := fmn _ _ hRl (not1 ra)
      refine ⟨_, rfl, .inl ⟨rfl, _, SqL.of hRd⟩, _, rfl, D, vc, rfl, .inl ⟨SqL.of hDc, fun t ht => ?_⟩⟩
      obtain ⟨ta, tc⟩ := hPd.ne ht
      have tr : t ≠ R := ne_of_some hRd ht
      refine ⟨R, vs, _, rfl, rfl, by rw [upd_ne (Ne.symm tr)]; exact hRd, small1000 (by omega), ?_⟩
      have fin : FmS [R, a] H' (upd (upd Hd t (.tup vc)) R (.lst (vs ++ [.ref t]))) := ((fmn.mono sub_tl).trans (FmS.new ht)).trans (FmS.set List.mem_cons_self)
      refine ⟨(hPd.upd ta tc).upd ra rc, fm'.trans fin, ⟨_, _, _, rfl⟩, l ++ [lc], vs ++ [.ref t], ?_, ?_, ?_, upd_same, ?_⟩
      · rw [List.length_append, hl]
        rfl
      · rw [List.length_append, hvl]
        rfl
      · intro x hx
        rcases List.mem_append.mp hx with hx | hx
        · exact hrg x hx
        · have e : x = lc := by simpa using hx
          subst e
          exact ⟨by omega, hrc⟩
      · rw [List.map_append]
        refine grown hall fin (.tup (SqT.of (offS_at ?_ (not2 tr ta))) (hAc.kp (.of fun b o e => ?_)))
        · rw [upd_ne tr]
          exact upd_same
        · obtain ⟨e1, e2⟩ := offS_get e
          simp only [List.mem_cons, List.not_mem_nil, or_false, not_or] at e2
          refine offS_at ?_ (not2 e2.2.1 e2.2.2)
          rw [upd_ne e2.2.1, upd_ne (ne_of_none e1 ht)]
          exact e1
    · rintro σ H' ⟨hP', fm', ⟨v1, v5, v6, rfl⟩, l, vs, hl, hvl, hrg, hRl, hall⟩
      have hL1f : H' D1 = some (.lst (l1.map V.int)) := fm' _ _ (s45 _ _ hL1') (not2 d1r d1a)
      have hL2f : H' D2 = some (.lst vs2) := fm' _ _ (s45 _ _ hL2) (not2 d2r d2a)
      -- the three tuples
      refine ⟨_, rfl, D1, _, rfl, .inl ⟨SqL.of hL1f, fun t1 h1 => ⟨_, rfl, D2, vs2, rfl, .inl ⟨SqL.of (by rw [upd_ne (Ne.symm (ne_of_some hL2f h1))]; exact hL2f), fun t2 h2 => ?_⟩⟩⟩⟩
      have h2' : H' t2 = none := (same_upd h1).free h2
      refine ⟨_, rfl, R, vs, rfl, .inl ⟨SqL.of (by rw [upd_ne (Ne.symm (ne_of_some hRl h2')), upd_ne (Ne.symm (ne_of_some hRl h1))]; exact hRl), fun t3 h3 => ⟨by show 3 ≤ sizeLine; decide, fun t4 h4 => ?_⟩⟩⟩
      have s1 : Same H' (upd H' t1 (.tup (l1.map V.int))) := same_upd h1
      have s2 := s1.trans (same_upd (o := .tup vs2) h2)
      have s3 := s2.trans (same_upd (o := .tup vs) h3)
      have s4 := s3.trans (same_upd (o := .tup [.ref t1, .ref t2, .ref t3]) h4)
      have t12 : t1 ≠ t2 := Ne.symm (ne_of_some upd_same h2)
      have t13 : t1 ≠ t3 := Ne.symm (ne_of_some (same_upd h2 _ _ upd_same) h3)
      have t14 : t1 ≠ t4 := Ne.symm (ne_of_some (same_upd h3 _ _ (same_upd h2 _ _ upd_same)) h4)
      have t23 : t2 ≠ t3 := Ne.symm (ne_of_some upd_same h3)
      have t24 : t2 ≠ t4 := Ne.symm (ne_of_some (same_upd h3 _ _ upd_same) h4)
      have t34 : t3 ≠ t4 := Ne.symm (ne_of_some upd_same h4)
      have fall : FmS [a] H H' := (fm2.trans fm4).trans (FmS.drop ((FmS.of s45).trans fm') hR)
      have n1 := (hP'.ne h1).1
      have n2 := (hP'.ne h2').1
      have n3 := (hP'.ne (s2.free h3)).1
      have n4 := (hP'.ne (s3.free h4)).1
      refine k ⟨l1, l2, l⟩ (.ref t4) _ ⟨by show l1.length ≤ 12; omega, hr1g, by show l2.length ≤ 24; omega, hr2g, by show l.length ≤ 8; omega, hrg⟩ (hP'.same s4) (fun b o e n => s4 _ _ (fall b o e (not1 n))) ?_
      refine .tup (SqT.of (off_at upd_same n4)) (.cons (.tup (SqT.of (off_at (o := .tup (l1.map V.int)) ?_ n1)) (dp_ints l1)) (.cons (.tup (SqT.of (off_at (o := .tup vs2) ?_ n2)) (hA2.kp (.of fun b o e => ?_)))
        (.cons (.tup (SqT.of (off_at (o := .tup vs) ?_ n3)) (hall.kp (.of fun b o e => ?_))) .nil)))
      · rw [upd_ne t14, upd_ne t13, upd_ne t12]
        exact upd_same
      · rw [upd_ne t24, upd_ne t23]
        exact upd_same
      · obtain ⟨e1, e2⟩ := offS_get e
        have nr : b ≠ R := ne_of_none e1 hR
        have na : b ≠ a := fun z => e2 (by rw [z]; exact in2)
        exact off_at (s4 _ _ (fm' _ _ (s45 _ _ e1) (not2 nr na))) na
      · rw [upd_ne t34]
        exact upd_same
      · obtain ⟨e1, e2⟩ := offS_get e
        exact off_at (s4 _ _ e1) fun z => e2 (by rw [z]; exact in2)
end
end K79
/-! The reader: made, one number taken, a code taken. -/
namespace K79
open PySem L2
theorem at_nu : ¬ (("numbers" : Str) = "at") := by decide +kernel
theorem rf_eq (l : Addr) (i : Nat) : rf l i = ([("numbers", V.ref l), ("at", V.int i)] : List (Str × V)) := by
  show (if ("numbers" : Str) = "at" then [(("numbers" : Str), V.int i)] else (("numbers" : Str), V.ref l) :: putF "at" (V.int i) []) = ([("numbers", V.ref l), ("at", V.int i)] : List (Str × V))
  rw [if_neg at_nu]
  all_goals rfl
theorem rf_nu (l : Addr) (i : Nat) : (rf l i).lookup ("numbers" : Str) = some (.ref l) := by
  unfold rf
  rw [lookup_putF, if_neg at_nu, lookup_putF, if_pos rfl]
theorem rf_at (l : Addr) (i : Nat) : (rf l i).lookup ("at" : Str) = some (.int i) := by
  unfold rf
  rw [lookup_putF, if_pos rfl]
theorem rf_no (l : Addr) (i : Nat) {m : Str} (h1 : ¬ m = "at") (h2 : ¬ m = "numbers") : (rf l i).lookup m = none := by
  unfold rf
  rw [lookup_putF, if_neg h1, lookup_putF, if_neg h2]
  all_goals rfl
theorem rf_put (l : Addr) (i j : Nat) : putF "at" (.int j) (rf l i) = rf l j := by
  rw [rf_eq, rf_eq]
  show (if ("numbers" : Str) = "at" then _ else (("numbers" : Str), V.ref l) :: (if ("at" : Str) = "at" then [(("at" : Str), V.int j)] else _)) = ([("numbers", V.ref l), ("at", V.int j)] : List (Str × V))
  rw [if_neg at_nu, if_pos rfl]
theorem rf_len (l : Addr) (i : Nat) : (rf l i).length < 1000 := by
  rw [rf_eq]
  show 2 < 1000
  decide
theorem RdAt.same {C : Addr} {H H' : Hp} {r l : Addr} {ns : List Int} {i : Nat} (h : RdAt C H r l ns i) (s : Same H H') : RdAt C H' r l ns i := by
  obtain ⟨dx, h1, h2⟩ := h
  exact ⟨dx, s _ _ h1, s _ _ h2⟩
theorem not_lst {xs : List V} {C dx : Addr} {fs : List (Str × V)} : HO.lst xs ≠ HO.ins C dx fs := fun z => by cases z
section
variable {P : Program} {w : World} {K : PySem.W.Frag} {mg : Str → Option Value} {base : Heap} {C CN CB CG fI aN : Addr}
theorem scNI : FnScope ["self", "numbers"] ["self", "numbers"] (defScope sNI) := ⟨rfl, rfl, rfl, by decide +kernel, rfl, by decide +kernel, by decide +kernel⟩
theorem ok_NI {f : Addr} {fd : FuncData} (F : Fun K "__init__" "Numbers.__init__" sNI f fd) (T : Txt P K mg C CN CB CG fI aN) : FnOk P w K mg base CX0 1 f fd ["self", "numbers"] (spNI K CN) := by
  refine F.ok scNI (fun vs H Q E h => ?_) (fun cdv A outer s H vs Q E hr h => ?_)
  · obtain ⟨p, dx, a, ns, rfl, _⟩ := h
    rfl
  · obtain ⟨p, dx, a, ns, rfl, hp, hS, k⟩ := h
    refine ⟨_, pss_cons (ps_fld (pv 0) (pe_callTy call_list_of (by rfl) T.list (by decide +kernel) (pa_cons (pv 1) pa_nil)) rfl) (pss_one (ps_fld (pv 0) pe_int rfl)), ?_⟩
    refine ⟨_, rfl, a, _, rfl, .inl hS, fun l hl => ⟨_, rfl, p, CN, dx, [], rfl, same_upd hl _ _ hp, T.clN, T.nNu, by decide, _, rfl, p, CN, dx, _, rfl, upd_same, T.clN, T.nAt, by show 1 < 1000; decide, ?_⟩⟩
    have npl : l ≠ p := ne_of_some hp hl
    refine k l _ ⟨dx, upd_same, ?_⟩ ((Fm.of (same_upd hl)).trans (Fm.upd.trans Fm.upd))
    rw [upd_ne npl, upd_ne npl]
    exact upd_same
theorem scNT : FnScope ["self", "least", "most"] ["self", "least", "most"] (defScope sNT) := ⟨rfl, rfl, rfl, by decide +kernel, rfl, by decide +kernel, by decide +kernel⟩
theorem ok_NT {f : Addr} {fd : FuncData} (F : Fun K "take" "Numbers.take" sNT f fd) (T : Txt P K mg C CN CB CG fI aN) : FnOk P w K mg base (L2.CX P w) 1 f fd ["self", "least", "most"] (spNT CN CB) := by
  refine F.okX scNT (fun vs H Q E h => ?_) (fun cdv A outer s H vs Q E hr h => ?_)
  · obtain ⟨r, lo, hi, rfl, _⟩ := h
    rfl
  · obtain ⟨r, lo, hi, rfl, l, ns, i, ⟨dx, h1, h2⟩, kO, kE⟩ := h
    refine ⟨_, pss_cons (ps_if (PW.pt (pw_or (pt_cmpR op_ge (pe_fld (pv 0) rfl) (pe_callB call_len_seq (by rfl) T.len PySem.boot_len (pa_cons (pe_fld (pv 0) rfl) pa_nil)) (nomark _))
          (pw_or1 (pt_not (pt_chain op_le op_le (pv 1) (pe_ix ix_list (pe_fld (pv 0) rfl) (pe_fld (pv 0) rfl) (fun _ _ => rfl)) (pv 2))))))
        (pss_one (ps_raiseBad rfl T.bad hr (takes_of rfl rfl rfl rfl) (pa_cons (pe_fld (pv 0) rfl) pa_nil))) pss_nil)
      (pss_cons (ps_fldaug (pv 0) pe_int in_add)
      (pss_one (ps_ret (pe_ix ix_list (pe_fld (pv 0) rfl) (pe_op op_sub (pe_fld (pv 0) rfl) pe_int) (fun _ _ => rfl))))), ?_⟩
    have bad : ∀ {D : Ends} {σ : L2.St}, σ[0]? = some (some (.ref r)) → take1 lo hi ns i = .error i → tRaiseBad CB (fun cls d _ H => E cls d H) (tCons (tFld K (tVar 0) "at") tNil) D σ H := fun {D σ} hs he =>
      ⟨_, hs, r, CN, dx, _, _, rfl, h1, T.clN, T.nAt, rf_at l i, _, rfl, fun d hd => kE i he d _ (Fm.of (same_upd hd)) upd_same⟩
    refine ⟨_, rfl, r, CN, dx, _, _, rfl, h1, T.clN, T.nAt, rf_at l i, _, rfl, r, CN, dx, _, _, rfl, h1, T.clN, T.nNu, rf_nu l i, l, _, rfl, .inl (SqL.of h2), _, _, rfl, rfl, _, rfl, ite2 (fun c => ?_) fun c => ?_⟩
    · refine iteT (bad rfl ?_)
      have c : ((ns.map V.int).length : Int) ≤ (i : Int) := of_decide_eq_true c
      rw [List.length_map] at c
      unfold take1
      rw [List.getElem?_eq_none (by omega)]
    · have c : ¬ (((ns.map V.int).length : Int) ≤ (i : Int)) := fun z => c (decide_eq_true z)
      rw [List.length_map] at c
      have hil : i < ns.length := by omega
      have hget : ns[i]? = some ns[i] := List.getElem?_eq_getElem hil
      have hgetV : (ns.map V.int)[i]? = some (.int ns[i]) := by rw [List.getElem?_map, hget]; rfl
      have no : ¬ (lo ≤ ns[i] ∧ ns[i] ≤ hi) → take1 lo hi ns i = .error i := fun z => by
        unfold take1
        rw [hget]
        exact if_neg z
      refine ⟨_, rfl, _, rfl, r, CN, dx, _, _, rfl, h1, T.clN, T.nNu, rf_nu l i, _, rfl, r, CN, dx, _, _, rfl, h1, T.clN, T.nAt, rf_at l i, l, _, _, _, rfl, rfl, SqL.of h2, at_of rfl hgetV, _, _, rfl, rfl, _, rfl, ite2 (fun c1 => ?_) fun c1 => ?_⟩
      · refine ⟨_, rfl, _, _, rfl, rfl, _, rfl, ?_⟩
        by_cases c2 : ns[i] ≤ hi
        · rw [decide_eq_true c2]
          refine iteF ?_
          have e1 : putF "at" (V.int ((i : Int) + 1)) (rf l i) = rf l (i + 1) := rf_put l i (i + 1)
          refine ⟨_, rfl, r, CN, dx, _, _, rfl, h1, T.clN, T.nAt, rf_at l i, _, _, rfl, rfl, dx, _, h1, rf_len l i, ?_⟩
          have h1' : (upd H r (.ins CN dx (putF "at" (.int ((i : Int) + 1)) (rf l i)))) r = some (.ins CN dx (rf l (i + 1))) := by rw [upd_same, e1]
          have h2' : (upd H r (.ins CN dx (putF "at" (.int ((i : Int) + 1)) (rf l i)))) l = some (.lst (ns.map V.int)) := by
            rw [upd_ne (ne_of h2 h1 not_lst)]
            exact h2
          refine ⟨_, rfl, r, CN, dx, _, _, rfl, h1', T.clN, T.nNu, rf_nu l _, _, rfl, r, CN, dx, _, _, rfl, h1', T.clN, T.nAt, rf_at l _, _, _, rfl, rfl, l, _, _, _, rfl, rfl, SqL.of h2', at_of (j := i) (by omega) hgetV, ?_⟩
          refine kO ns[i] (i + 1) ?_ _ _ ⟨dx, h1', h2'⟩ Fm.upd rfl
          unfold take1
          rw [hget]
          exact if_pos ⟨of_decide_eq_true c1, c2⟩
        · rw [decide_eq_false c2]
          exact iteT (bad rfl (no fun z => c2 z.2))
      · exact ⟨_, rfl, iteT (bad rfl (no fun z => c1 (decide_eq_true z.1)))⟩
end
end K79
/-! take_code. -/
namespace K79
open PySem L2
theorem take1_ok {lo hi x : Int} {ns : List Int} {i i' : Nat} (h : take1 lo hi ns i = .ok (x, i')) : lo ≤ x ∧ x ≤ hi := by
  unfold take1 at h
  cases e : ns[i]? with
  | none =>
    rw [e] at h
    cases h
  | some y =>
    rw [e] at h
    by_cases c : lo ≤ y ∧ y ≤ hi
    · have h : (if lo ≤ y ∧ y ≤ hi then (.ok (y, i + 1) : Ans Int) else .error i) = .ok (x, i') := h
      rw [if_pos c] at h
      cases h
      exact c
    · have h : (if lo ≤ y ∧ y ≤ hi then (.ok (y, i + 1) : Ans Int) else .error i) = .ok (x, i') := h
      rw [if_neg c] at h
      cases h
theorem then_err {α β : Type} {r : Ans α} {k : α → Nat → Except Nat β} {j : Nat} (h : r = .error j) : andThen r k = .error j := by rw [h]; rfl
theorem then_ok {α β : Type} {r : Ans α} {k : α → Nat → Except Nat β} {x : α} {i : Nat} (h : r = .ok (x, i)) : andThen r k = k x i := by rw [h]; rfl
theorem rep_succ {α : Type} {p : Rd α} {ns : List Int} {m i : Nat} : rep p (m + 1) ns i = andThen (p ns i) fun x i1 => andThen (rep p m ns i1) fun xs i2 => .ok (x :: xs, i2) := rfl
theorem rep_err {α β : Type} {p : Rd α} {ns : List Int} {m i j : Nat} {k : List α → Nat → Except Nat β} (h : p ns i = .error j) : andThen (rep p (m + 1) ns i) k = .error j := by
  rw [rep_succ, then_err h]
  rfl
theorem rep_ok {α β : Type} {p : Rd α} {ns : List Int} {m i i1 : Nat} {x : α} {l : List α} {k : List α → Nat → Except Nat β} (h : p ns i = .ok (x, i1)) :
    andThen (rep p (m + 1) ns i) (fun xs i2 => k (l ++ xs) i2) = andThen (rep p m ns i1) fun xs i2 => k ((l ++ [x]) ++ xs) i2 := by
  rw [rep_succ, then_ok h]
  cases e : rep p m ns i1 with
  | error j => rfl
  | ok q =>
    obtain ⟨xs, i2⟩ := q
    show k (l ++ x :: xs) i2 = k ((l ++ [x]) ++ xs) i2
    rw [List.append_assoc]
    rfl
theorem then_id {α : Type} {r : Ans α} : andThen r (fun x i => .ok (x, i)) = r := by
  cases r with
  | error e => rfl
  | ok q => rfl
theorem lt_line {n : Nat} (h : n ≤ 65535) : n < sizeLine := Nat.lt_of_le_of_lt h (by decide)
/-- the class Numbers as the top has made it -/
structure NumC (K : PySem.W.Frag) (CN fN fT fK : Addr) (fdN fdT fdK : FuncData) : Prop where
  made : Mk K CN fN
  FN : Fun K "__init__" "Numbers.__init__" sNI fN fdN
  bN : Binds K fdN ["self", "numbers"] []
  mT : Meth K CN "take" fT
  FT : Fun K "take" "Numbers.take" sNT fT fdT
  bT : Binds K fdT ["self", "least", "most"] []
  mK : Meth K CN "take_code" fK
  FK : Fun K "take_code" "Numbers.take_code" sNC fK fdK
  bK : Binds K fdK ["self"] []
section
variable {P : Program} {w : World} {K : PySem.W.Frag} {mg : Str → Option Value} {base : Heap} {C CN CB CG fI aN : Addr}
theorem names_sq (T : Txt P K mg C CN CB CG fI aN) (H : Hp) : SqT K H aN (names.map V.str) := by
  obtain ⟨o, its, n, hk, hc, _, hd, hv⟩ := T.namesT
  refine .inr ⟨o, its, n, hk, hc, hd, ?_, hv⟩
  have e := hv.length
  rw [List.length_map] at e
  have z : its.size = names.length := by
    rw [e]
    exact Array.length_toList.symm
  rw [z]
  decide
theorem no_take (l : Addr) (i : Nat) : (rf l i).lookup ("take" : Str) = none := rf_no l i (by decide +kernel) (by decide +kernel)
theorem no_takec (l : Addr) (i : Nat) : (rf l i).lookup ("take_code" : Str) = none := rf_no l i (by decide +kernel) (by decide +kernel)
theorem scNC : FnScope ["self", "code", "_", "name"] ["self"] (defScope sNC) := ⟨rfl, rfl, rfl, by decide +kernel, rfl, by decide +kernel, by decide +kernel⟩
theorem ok_NC {fN fT fK : Addr} {fdN fdT fdK : FuncData} (M : NumC K CN fN fT fK fdN fdT fdK) (T : Txt P K mg C CN CB CG fI aN) : FnOk P w K mg base (L2.CX P w) 2 fK fdK ["self"] (spNC K CN CB) := by
  have GT : FnOk P w K mg base (L2.CX P w) 1 fT fdT ["self", "least", "most"] (spNT CN CB) := ok_NT M.FT T
  obtain ⟨gt, hG⟩ := T.greatest
  refine M.FK.okX scNC (fun vs H Q E h => ?_) (fun cdv A outer s H vs Q E hr h => ?_)
  · obtain ⟨r, rfl, _⟩ := h
    rfl
  · obtain ⟨r, rfl, l, ns, i, hR, kO, kE⟩ := h
    refine ⟨_, pss_cons (ps_set (i := 1) scNC.nd rfl (Or.inl rfl) (pe_lst pa_nil))
      (pss_cons (ps_for (passes_of rfl) rfl (pi_range1 (by rfl) T.range (pa_cons (pe_meth (pv 0) T.clN M.mT GT hr M.bT .nil (passes_call (W := fun cls d _ H => E cls d H) (takes_of rfl rfl rfl rfl) (fun _ _ _ _ h => h)) (pa_cons pe_int (pa_cons (pe_glob (v := .int 65535) rfl hG ⟨_, rfl⟩) pa_nil))) pa_nil)) (pg_name (i := 2) scNC.nd rfl (Or.inl rfl))
        (pss_cons (ps_set (i := 3) scNC.nd rfl (Or.inl rfl) (pe_ix ix_tup (pe_glob (v := .ref aN) rfl T.mgA rfl) (pe_meth (pv 0) T.clN M.mT GT hr M.bT .nil (passes_call (W := fun cls d _ H => E cls d H) (takes_of rfl rfl rfl rfl) (fun _ _ _ _ h => h))
            (pa_cons pe_int (pa_cons (pe_op op_sub (pe_callB call_len_seq (by rfl) T.len PySem.boot_len (pa_cons (pe_glob (v := .ref aN) rfl T.mgA rfl) pa_nil)) pe_int) pa_nil))) (fun _ _ => rfl)))
        (pss_one (ps_expr (pe_bm PySem.F.plainAttrs_list PySem.F.slot_list_append PySem.F.type_list_append mt_append (pv 1) (pa_cons (pe_tup (pa_cons (pv 3) (pa_cons
          (pe_meth (pv 0) T.clN M.mT GT hr M.bT .nil (passes_call (W := fun cls d _ H => E cls d H) (takes_of rfl rfl rfl rfl) (fun _ _ _ _ h => h)) (pa_cons pe_int (pa_cons (pe_glob (v := .int 65535) rfl hG ⟨_, rfl⟩) pa_nil))) pa_nil))) pa_nil))))))
      (pss_one (ps_ret (pv 1)))), ?_⟩
    -- code = []
    refine ⟨by show 0 ≤ sizeLine; decide, fun c hc => ?_⟩
    have s0 : Same H (upd H c (.lst [])) := same_upd hc
    have hR0 := hR.same s0
    have hc0 : (upd H c (.lst [])) c = some (.lst []) := upd_same
    generalize upd H c (.lst []) = H0 at s0 hR0 hc0
    have hrc : c ≠ r := by
      obtain ⟨dx, h1, _⟩ := hR
      exact ne_of_some h1 hc
    have hlc : c ≠ l := by
      obtain ⟨dx, _, h2⟩ := hR
      exact ne_of_some h2 hc
    obtain ⟨dx0, hr0, hl0⟩ := id hR0
    refine ⟨_, rfl, r, dx0, _, rfl, hr0, no_take _ _, r, 0, 65535, rfl, l, ns, i, hR0, fun n i1 hok v H1 hR1 f1 ev => ?_, fun j he d H1 f1 hx => kE j (then_err he) d H1 ((Fm.of s0).trans f1) hx⟩
    subst ev
    obtain ⟨hn0, hn1⟩ := take1_ok hok
    have hcode : codeP ns i = rep instrP n.toNat ns i1 := then_ok hok
    refine ⟨n, rfl, by omega, by omega, for_range (lo := 0) (n := n.toNat) (fun t σ H' => ∃ (i' : Nat) (vs : List V) (q : List (Nat × Int)), q.length = t ∧ vs.length = t ∧ RdAt CN H' r l ns i' ∧ Fm r H H' ∧ H' c = some (.lst vs) ∧ DpAll K (off c (fresh H H')) vs (q.map dInstr) ∧
        codeP ns i = andThen (rep instrP (n.toNat - t) ns i') (fun xs i2 => .ok (q ++ xs, i2)) ∧ ∃ v2 v3 : Option V, σ = [some (.ref r), some (.ref c), v2, v3])
      ⟨i1, [], [], rfl, rfl, hR1, (Fm.of s0).trans f1, f1 _ _ hc0 hrc, .nil, hcode.trans then_id.symm, none, none, rfl⟩ ?_ ?_⟩
    · rintro t σ H' ht ⟨i', vs, q, hl, hvl, hR', f', hc', hall, heq, v2, v3, rfl⟩
      obtain ⟨m, hm⟩ : ∃ m, n.toNat - t = m + 1 := ⟨n.toNat - t - 1, by omega⟩
      rw [hm] at heq
      obtain ⟨dx, hr1, hl1⟩ := id hR'
      -- name = NAMES[self.take(0, len(NAMES) - 1)]
      refine ⟨_, rfl, r, dx, _, rfl, hr1, no_take _ _, aN, _, rfl, .inr (names_sq T _), _, _, rfl, rfl, r, 0, 15, rfl, l, ns, i', hR', fun x i2 hok2 v H2 hR2 f2 ev => ?_, fun j he d H2 f2 hx => kE j (heq.trans (rep_err (then_err he))) d H2 (f'.trans f2) hx⟩
      subst ev
      obtain ⟨hx0, hx1⟩ := take1_ok hok2
      refine ⟨aN, _, _, _, rfl, rfl, names_sq T _, at_of (j := x.toNat) (by omega) (nm_at (by omega)), ?_⟩
      -- code.append((name, self.take(0, GREATEST)))
      have hc2 := f2 _ _ hc' hrc
      obtain ⟨dx2, hr2, hl2⟩ := id hR2
      refine ⟨_, rfl, .inl ⟨rfl, _, SqL.of hc2⟩, _, rfl, _, rfl, r, dx2, _, rfl, hr2, no_take _ _, r, 0, 65535, rfl, l, ns, i2, hR2, fun y i3 hok3 v H3 hR3 f3 ev => ?_, fun j he d H3 f3 hx =>
        kE j (heq.trans (rep_err ((then_ok hok2).trans (then_err he)))) d H3 ((f'.trans f2).trans f3) hx⟩
      subst ev
      refine ⟨by show 2 ≤ sizeLine; decide, fun tp htp => ?_⟩
      have hc3 := f3 _ _ hc2 hrc
      have tc : tp ≠ c := ne_of_some hc3 htp
      have tr : tp ≠ r := by
        obtain ⟨dx3, hr3, _⟩ := hR3
        exact ne_of_some hr3 htp
      refine ⟨c, vs, _, rfl, rfl, by rw [upd_ne (Ne.symm tc)]; exact hc3, lt_line (by omega), ?_⟩
      have frame : FmS [c, r] H' (upd (upd H3 tp (.tup [.str (nm x.toNat), .int y])) c (.lst (vs ++ [.ref tp]))) := (((FmS.fm f2 in2).trans (FmS.fm f3 in2)).trans (FmS.new htp)).trans (FmS.set List.mem_cons_self)
      refine ⟨i3, vs ++ [.ref tp], q ++ [(x.toNat, y)], ?_, ?_, ?_, ?_, upd_same, ?_, ?_, _, _, rfl⟩
      · rw [List.length_append, hl]
        rfl
      · rw [List.length_append, hvl]
        rfl
      · obtain ⟨dx3, hr3, hl3⟩ := hR3
        refine ⟨dx3, ?_, ?_⟩
        · rw [upd_ne (Ne.symm hrc), upd_ne (Ne.symm tr)]
          exact hr3
        · rw [upd_ne (Ne.symm hlc), upd_ne (Ne.symm (ne_of_some hl3 htp))]
          exact hl3
      · have z := FmS.drop ((FmS.fm f' in2).trans frame) hc
        exact fun b o e n => z b o e (not1 n)
      · rw [List.map_append]
        have hrH : ∃ o, H r = some o := by
          obtain ⟨dxr, hx, _⟩ := hR
          exact ⟨_, hx⟩
        obtain ⟨ro, hro⟩ := hrH
        have tH : H tp = none := (FmS.fm ((f'.trans f2).trans f3) in2 : FmS [c, r] H H3).free htp (not2 tc tr)
        refine (hall.kp (.of fun b o e => ?_)).app (.one (.tup (SqT.of (off_at (fresh_at tH ?_) tc)) (.cons (.str _) (.cons (.int _) .nil))))
        · obtain ⟨e1, e2⟩ := off_get e
          obtain ⟨e3, e4⟩ := fresh_get e1
          exact off_at (fresh_at e4 (frame _ _ e3 (not2 e2 (ne_of_some hro e4)))) e2
        · rw [upd_ne tc]
          exact upd_same
      · rw [heq, rep_ok (k := fun xs i2 => .ok (xs, i2)) (x := (x.toNat, y)) ((then_ok hok2).trans (then_ok hok3))]
        rw [show n.toNat - (t + 1) = m by omega]
    · rintro σ H' ⟨i', vs, q, hl, hvl, hR', f', hc', hall, heq, v2, v3, rfl⟩
      rw [Nat.sub_self] at heq
      refine ⟨_, rfl, kO q i' ?_ _ _ hR' f' (.lst (SqL.of (fresh_at hc hc')) (hall.kp (.of off_same)))⟩
      rw [heq]
      show (.ok (q ++ [], i') : Ans (List (Nat × Int))) = _
      rw [List.append_nil]
end
end K79
/-! Program: made, compared; its numbers. -/
namespace K79
open PySem L2
section
variable {P : Program} {w : World} {K : PySem.W.Frag} {mg : Str → Option Value} {base : Heap} {C CN CB CG fI aN : Addr}
/-- tuple(x), x a list or a tuple, by K -/
abbrev rTupOf (K : PySem.W.Frag) : List V → Hp → VK → Prop := fun xs H Q => ∃ p ys, xs = [.ref p] ∧ ((SqL K H p ys ∧ ∀ l, H l = none → Q (.ref l) (upd H l (.tup ys))) ∨ (SqT K H p ys ∧ Q (.ref p) H))
abbrev nPI : List Str := ["self", "sizes", "moves", "rounds", "code"]
theorem scPI : FnScope nPI ["self", "sizes", "moves", "rounds"] (defScope sPI) := ⟨rfl, rfl, rfl, by decide +kernel, rfl, by decide +kernel, by decide +kernel⟩
theorem not_sq {C dx : Addr} {fs : List (Str × V)} : ¬ Sq (.ins C dx fs) := fun z => z
theorem ok_PI {f : Addr} {fd : FuncData} (F : Fun K "__init__" "Program.__init__" sPI f fd) (T : Txt P K mg C CN CB CG fI aN) : FnOk P w K mg base CX0 1 f fd ["self", "sizes", "moves", "rounds"] (spPI K C) := by
  refine F.ok scPI (fun vs H Q E h => ?_) (fun cdv A outer s H vs Q E hr h => ?_)
  · obtain ⟨p, dx, a, b, c, g, rfl, _⟩ := h
    rfl
  · obtain ⟨p, dx, a, b, c, g, rfl, hp, hgl, hA, hB, hC, k⟩ := h
    refine ⟨_, pss_cons (ps_fld (pv 0) (pe_callTy call_tuple_of (by rfl) T.tuple (by decide +kernel) (pa_cons (pv 1) pa_nil)) rfl)
      (pss_cons (ps_fld (pv 0) (pe_callTy call_tuple_of (by rfl) T.tuple (by decide +kernel) (pa_cons (pv 2) pa_nil)) rfl)
      (pss_one (ps_fld (pv 0) (pe_callTy call_tuple_of (by rfl) T.tuple (by decide +kernel) (pa_cons
        (pe_lc (own := [("code", 4)]) (g := gName 4) (tt := tYes) rfl scPI.nd (pi_list (pv 3)) (blkOk_by (N := nPI) (sc := defScope sPI) (by decide +kernel)) (fun _ _ _ _ _ => pg_name (i := 4) scPI.nd rfl (Or.inl rfl)) (fun _ _ _ _ _ => pts_nil)
          (fun _ _ _ _ _ => pe_callTy (r := rTupOf K) call_tuple_of (by rfl) T.tuple (by decide +kernel) (pa_cons (pv 4) pa_nil))) pa_nil)) rfl))), ?_⟩
    cases hA with
    | @lst a1 xs1 _ sA dA =>
      cases hB with
      | @lst b1 ys1 _ sB dB =>
        cases hC with
        | @lst c1 zs1 _ sC dC =>
          -- sizes
          refine ⟨_, rfl, a1, _, rfl, .inl ⟨sA, fun t1 h1 => ⟨_, rfl, p, C, dx, [], rfl, same_upd h1 _ _ hp, T.clC, T.nSi, by decide, ?_⟩⟩⟩
          have t1p : t1 ≠ p := ne_of_some hp h1
          have F1 : Fm p H (upd (upd H t1 (.tup xs1)) p (.ins C dx (putF "sizes" (.ref t1) []))) := (Fm.of (same_upd h1)).trans Fm.upd
          have g1 : (upd (upd H t1 (.tup xs1)) p (.ins C dx (putF "sizes" (.ref t1) []))) t1 = some (.tup xs1) := by rw [upd_ne t1p]; exact upd_same
          have p1 : (upd (upd H t1 (.tup xs1)) p (.ins C dx (putF "sizes" (.ref t1) []))) p = some (.ins C dx (putF "sizes" (.ref t1) [])) := upd_same
          generalize upd (upd H t1 (.tup xs1)) p (.ins C dx (putF "sizes" (.ref t1) [])) = H1 at F1 g1 p1
          -- moves
          refine ⟨_, rfl, b1, _, rfl, .inl ⟨sB.kp (F1.kp hp not_sq), fun t2 h2 => ⟨_, rfl, p, C, dx, _, rfl, same_upd h2 _ _ p1, T.clC, T.nMo, by show 1 < 1000; decide, ?_⟩⟩⟩
          have t2p : t2 ≠ p := ne_of_some p1 h2
          have F2 : Fm p H1 (upd (upd H1 t2 (.tup ys1)) p (.ins C dx (putF "moves" (.ref t2) (putF "sizes" (.ref t1) [])))) := (Fm.of (same_upd h2)).trans Fm.upd
          have g2 : (upd (upd H1 t2 (.tup ys1)) p (.ins C dx (putF "moves" (.ref t2) (putF "sizes" (.ref t1) [])))) t2 = some (.tup ys1) := by rw [upd_ne t2p]; exact upd_same
          have p2 : (upd (upd H1 t2 (.tup ys1)) p (.ins C dx (putF "moves" (.ref t2) (putF "sizes" (.ref t1) [])))) p = some (.ins C dx (putF "moves" (.ref t2) (putF "sizes" (.ref t1) []))) := upd_same
          generalize upd (upd H1 t2 (.tup ys1)) p (.ins C dx (putF "moves" (.ref t2) (putF "sizes" (.ref t1) []))) = H2 at F2 g2 p2
          have F02 : Fm p H H2 := F1.trans F2
          have kp2 : Kp H H2 := F02.kp hp not_sq
          -- rounds
          refine ⟨_, rfl, c1, rfl, ⟨_, sC.kp kp2⟩, fun D hD => ?_⟩
          have hDH : H D = none := by
            cases e : H D with
            | none => rfl
            | some o =>
              rw [F02 D o e (ne_of_some p2 hD)] at hD
              cases hD
          refine lc_list (K := K) (a := c1) (xs := zs1) (fun i H' => FmS [D] H2 H' ∧ ∃ vs : List V, vs.length = i ∧ H' D = some (.lst vs) ∧ DpAll K (offS [D] H') vs ((g.rounds.take i).map dCode))
            ⟨FmS.new hD, [], rfl, upd_same, .nil⟩ (fun i H' _ h => (sC.kp kp2).kp (Kp.of (FmS.same1 h.1 hD))) ?_ ?_
          · rintro i x H' hx ⟨fm, vs, hvl, hDl, hall⟩
            obtain ⟨d, e1, dx'⟩ := dC.get hx
            rw [List.getElem?_map] at e1
            cases e2 : g.rounds[i]? with
            | none =>
              rw [e2] at e1
              cases e1
            | some r =>
              rw [e2] at e1
              cases e1
              cases dx' with
              | @lst e ws _ sE dE =>
                have kp' : Kp H H' := kp2.trans (Kp.of (FmS.same1 fm hD))
                refine ⟨rfl, _, rfl, e, ws, rfl, .inl ⟨sE.kp kp', fun t ht => ?_⟩⟩
                have td : t ≠ D := ne_of_some hDl ht
                have hi : i < g.rounds.length := (List.getElem?_eq_some_iff.mp e2).1
                have step : FmS [D] H' (upd (upd H' t (.tup ws)) D (.lst (vs ++ [.ref t]))) := (FmS.new ht).trans (FmS.set in1)
                refine ⟨vs, by rw [upd_ne (Ne.symm td)]; exact hDl, small1000 (by omega), fm.trans step, vs ++ [.ref t], by rw [List.length_append, hvl]; rfl, upd_same, ?_⟩
                rw [List.take_succ, e2, List.map_append]
                refine grown hall step (.tup (SqT.of (offS_at ?_ (not1 td))) (dE.kp fun b o z sq => ?_))
                · rw [upd_ne td]
                  exact upd_same
                · have nbD : b ≠ D := ne_of_none z hDH
                  exact offS_at (step _ _ (kp' _ _ z sq) (not1 nbD)) (not1 nbD)
          · rintro H3 ⟨fm, vs, hvl, hDl, hall⟩
            have s23 := FmS.same1 fm hD
            refine ⟨D, vs, rfl, .inl ⟨SqL.of hDl, fun t3 h3 => ⟨_, rfl, p, C, dx, _, rfl, same_upd h3 _ _ (s23 _ _ p2), T.clC, T.nRo, by show 2 < 1000; decide, ?_⟩⟩⟩
            have t3p : t3 ≠ p := ne_of_some (s23 _ _ p2) h3
            have F3 : Fm p H2 (upd (upd H3 t3 (.tup vs)) p (.ins C dx (pf t1 t2 t3))) := (Fm.of s23).trans ((Fm.of (same_upd h3)).trans Fm.upd)
            refine k _ ⟨p, dx, t1, t2, t3, rfl, upd_same, ?_, ?_, ?_⟩ (F02.trans F3)
            · rw [of_ints dA] at g1
              exact .tup (SqT.of (F3 _ _ (F2 _ _ g1 t1p) t1p)) (dp_ints _)
            · exact .tup (SqT.of (F3 _ _ g2 t2p)) (dB.kp ((F02.trans F3).kp hp not_sq))
            · refine .tup (SqT.of (xs := vs) ?_) ?_
              · rw [upd_ne t3p]
                exact upd_same
              · have e : zs1.length = g.rounds.length := by
                  have z := dC.len
                  rw [List.length_map] at z
                  exact z
                rw [e, List.take_length] at hall
                refine hall.kp fun b o z sq => ?_
                have nb : b ≠ p := fun q => by
                  have z1 := (offS_get z).1
                  rw [q, s23 _ _ p2] at z1
                  cases z1
                  exact sq
                rw [upd_ne nb]
                exact same_upd h3 _ _ (offS_get z).1
end
end K79
/-! Program compared; its numbers. -/
namespace K79
open PySem L2
/-! ### the data may be compared -/
theorem lay_map {α : Type} {f : α → PyData} {n : Nat} (h : ∀ x, (f x).canLay0 = true ∧ (f x).depth ≤ n) : ∀ l : List α, PyData.canLayAll0 (l.map f) = true ∧ PyData.depthAll (l.map f) ≤ n
  | [] => ⟨by simp [PyData.canLayAll0], by simp [PyData.depthAll]⟩
  | x :: l => by
    obtain ⟨h1, h2⟩ := h x
    obtain ⟨h3, h4⟩ := lay_map h l
    refine ⟨?_, ?_⟩
    · rw [List.map_cons, PyData.canLayAll0, h1, h3]
      rfl
    · rw [List.map_cons, PyData.depthAll]
      exact Nat.max_le.mpr ⟨h2, h4⟩
theorem lay_tup {ds : List PyData} {n : Nat} (h : PyData.canLayAll0 ds = true ∧ PyData.depthAll ds ≤ n) : (PyData.tuple ds).canLay0 = true ∧ (PyData.tuple ds).depth ≤ n + 1 := by
  refine ⟨?_, ?_⟩
  · rw [PyData.canLay0]
    exact h.1
  · rw [PyData.depth]
    exact Nat.succ_le_succ h.2
theorem lay_list {ds : List PyData} {n : Nat} (h : PyData.canLayAll0 ds = true ∧ PyData.depthAll ds ≤ n) : (PyData.list ds).canLay0 = true ∧ (PyData.list ds).depth ≤ n + 1 := by
  refine ⟨?_, ?_⟩
  · rw [PyData.canLay0]
    exact h.1
  · rw [PyData.depth]
    exact Nat.succ_le_succ h.2
theorem lay_int (i : Int) : (PyData.int i).canLay0 = true ∧ (PyData.int i).depth ≤ 0 := ⟨by rw [PyData.canLay0], by rw [PyData.depth]; exact Nat.le_refl _⟩
theorem ok_nm (k : Nat) : PyData.canLay0 (.str (nm k)) = true := by
  by_cases h : k < 16
  · have q : ∀ k, k < 16 → PyData.canLay0 (.str (nm k)) = true := by decide +kernel
    exact q k h
  · have e : nm k = "" := by
      unfold nm
      rw [List.getD_eq_getElem?_getD, List.getElem?_eq_none (by show names.length ≤ k; have : names.length = 16 := rfl; omega)]
      rfl
    rw [e]
    decide +kernel
theorem lay_two {a b : PyData} (ha : a.canLay0 = true ∧ a.depth ≤ 0) (hb : b.canLay0 = true ∧ b.depth ≤ 0) : (PyData.tuple [a, b]).canLay0 = true ∧ (PyData.tuple [a, b]).depth ≤ 1 := by
  refine lay_tup (n := 0) ⟨?_, ?_⟩
  · rw [PyData.canLayAll0, PyData.canLayAll0, PyData.canLayAll0, ha.1, hb.1]
    rfl
  · rw [PyData.depthAll, PyData.depthAll, PyData.depthAll]
    exact Nat.max_le.mpr ⟨ha.2, Nat.max_le.mpr ⟨hb.2, Nat.le_refl _⟩⟩
theorem lay_str (k : Nat) : (PyData.str (nm k)).canLay0 = true ∧ (PyData.str (nm k)).depth ≤ 0 := ⟨ok_nm k, by rw [PyData.depth]; exact Nat.le_refl _⟩
theorem shaped_of {d : PyData} {n : Nat} (h : d.canLay0 = true ∧ d.depth ≤ n) (hn : n ≤ 64) : SeqAt.shaped d = true := by
  unfold SeqAt.shaped
  rw [h.1, decide_eq_true (Nat.le_trans h.2 hn)]
  rfl
theorem sh_sizes (l : List Int) : SeqAt.shaped (dSizes l) = true := shaped_of (lay_tup (lay_map lay_int l)) (by decide)
theorem sh_moves (l : List (Int × Int)) : SeqAt.shaped (dMoves l) = true := shaped_of (lay_tup (lay_map (f := dPair) (n := 1) (fun m => lay_two (lay_int m.1) (lay_int m.2)) l)) (by decide)
theorem sh_rounds (l : List (List (Nat × Int))) : SeqAt.shaped (dRounds l) = true := shaped_of (lay_tup (lay_map (f := dCode) (n := 2) (fun c => lay_tup (lay_map (f := dInstr) (n := 1) (fun x => lay_two (lay_str x.1) (lay_int x.2)) c)) l)) (by decide)
theorem sh_ints (l : List Int) : SeqAt.shaped (.list (l.map PyData.int)) = true := shaped_of (lay_list (lay_map lay_int l)) (by decide)
theorem eqv_self {d : PyData} (h : SeqAt.shaped d = true) : PyData.eqv d d = true := SeqAt.eqv_refl d (SeqAt.canLay_of_shaped h)
/-! ### a Program's fields -/
theorem n_sm : ¬ (("sizes" : Str) = "moves") := by decide +kernel
theorem n_sr : ¬ (("sizes" : Str) = "rounds") := by decide +kernel
theorem n_mr : ¬ (("moves" : Str) = "rounds") := by decide +kernel
theorem pf_s (s m r : Addr) : (pf s m r).lookup ("sizes" : Str) = some (.ref s) := by
  unfold pf
  rw [lookup_putF, if_neg n_sr, lookup_putF, if_neg n_sm, lookup_putF, if_pos rfl]
theorem pf_m (s m r : Addr) : (pf s m r).lookup ("moves" : Str) = some (.ref m) := by
  unfold pf
  rw [lookup_putF, if_neg n_mr, lookup_putF, if_pos rfl]
theorem pf_r (s m r : Addr) : (pf s m r).lookup ("rounds" : Str) = some (.ref r) := by
  unfold pf
  rw [lookup_putF, if_pos rfl]
/-- the class Program as the top has made it -/
structure ProC (K : PySem.W.Frag) (C fP fE : Addr) (fdP fdE : FuncData) : Prop where
  made : Mk K C fP
  FP : Fun K "__init__" "Program.__init__" sPI fP fdP
  bP : Binds K fdP ["self", "sizes", "moves", "rounds"] []
  FE : Fun K "__eq__" "Program.__eq__" sPE fE fdE
  bE : Binds K fdE ["self", "other"] []
  eqF : PySem.W.findIn K (.ref C) "__eq__" = some (some (.ref fE))
  eqI : PySem.W.isFn K (.ref fE) = true
  ca : PySem.W.findIn K (.ref C) "__class__" = some (some (.builtin "object.__class__"))
  cn : PySem.W.specialIn K (.builtin "object.__class__") "__get__" = some (some (.builtin "getset_descriptor.__get__"))
  ct : PySem.W.takesIn K (.builtin "object.__class__") = some true
  cm : PySem.W.mroIn K C (.type "object") = some true
  kt : PySem.W.kitOne K (.ref C) (.ref C) = some true
section
variable {P : Program} {w : World} {K : PySem.W.Frag} {mg : Str → Option Value} {base : Heap} {C CN CB CG fI aN : Addr}
theorem scPE : FnScope ["self", "other"] ["self", "other"] (defScope sPE) := ⟨rfl, rfl, rfl, by decide +kernel, rfl, by decide +kernel, by decide +kernel⟩
theorem ok_PE {fP fE : Addr} {fdP fdE : FuncData} (M : ProC K C fP fE fdP fdE) (T : Txt P K mg C CN CB CG fI aN) : FnOk P w K mg base CX0 1 fE fdE ["self", "other"] (spEq (rPE K C)) := by
  refine M.FE.ok scPE (fun vs H Q E h => ?_) (fun cdv A outer s H vs Q E hr h => ?_)
  · obtain ⟨a, b, rfl, _⟩ := h
    rfl
  · obtain ⟨a, b, rfl, ⟨g, hA, hB⟩, k⟩ := h
    refine ⟨_, pss_one (ps_ret (pe_and (pe_callB call_isi (by rfl) T.isinstance (by decide +kernel) (pa_cons (pv 1) (pa_cons (pe_glob (v := .ref C) rfl T.mgC rfl) pa_nil)))
      (pe_and (pe_cmpR (op_eqD hr.units) (pe_fld (pv 0) rfl) (pe_fld (pv 1) rfl) (nomark _))
      (pe_and (pe_cmpR (op_eqD hr.units) (pe_fld (pv 0) rfl) (pe_fld (pv 1) rfl) (nomark _))
      (pe_one (pe_cmpR (op_eqD hr.units) (pe_fld (pv 0) rfl) (pe_fld (pv 1) rfl) (nomark _))))))), ?_⟩
    obtain ⟨a', dx, s1, m1, r1, ea, h1, hs1, hm1, hr1⟩ := hA.ex
    cases ea
    obtain ⟨b', dy, s2, m2, r2, eb, h2, hs2, hm2, hr2⟩ := hB.ex
    cases eb
    refine ⟨_, rfl, _, _, _, _, true, rfl, .own _, .base (.ins h2 T.clC M.ca M.cn M.ct M.cm), M.kt, _, rfl, iteT ?_⟩
    refine ⟨_, rfl, a, C, dx, _, _, rfl, h1, T.clC, T.nSi, pf_s _ _ _, _, rfl, b, C, dy, _, _, rfl, h2, T.clC, T.nSi, pf_s _ _ _, _, _, hs1, hs2, sh_sizes _, sh_sizes _, _, rfl, ?_⟩
    rw [eqv_self (sh_sizes _)]
    refine iteT ⟨_, rfl, a, C, dx, _, _, rfl, h1, T.clC, T.nMo, pf_m _ _ _, _, rfl, b, C, dy, _, _, rfl, h2, T.clC, T.nMo, pf_m _ _ _, _, _, hm1, hm2, sh_moves _, sh_moves _, _, rfl, ?_⟩
    rw [eqv_self (sh_moves _)]
    refine iteT ⟨_, rfl, a, C, dx, _, _, rfl, h1, T.clC, T.nRo, pf_r _ _ _, _, rfl, b, C, dy, _, _, rfl, h2, T.clC, T.nRo, pf_r _ _ _, _, _, hr1, hr2, sh_rounds _, sh_rounds _, ?_⟩
    rw [eqv_self (sh_rounds _)]
    exact k H Ext.rfl'
end
end K79
/-! program_numbers. -/
namespace K79
open PySem L2
/-! ### the numbers without their ranges -/
def nS (l : List Int) : List Int := (l.length : Int) :: l
def fM (m : Int × Int) : List Int := [m.1, m.2]
def nM (l : List (Int × Int)) : List Int := (l.length : Int) :: l.flatMap fM
def fI (x : Nat × Int) : List Int := [(x.1 : Int), x.2]
def nC (c : List (Nat × Int)) : List Int := (c.length : Int) :: c.flatMap fI
def nR (l : List (List (Nat × Int))) : List Int := (l.length : Int) :: l.flatMap nC
theorem map_flat {α β γ : Type} (f : α → List β) (h : β → γ) : ∀ l : List α, (l.flatMap f).map h = l.flatMap fun x => (f x).map h
  | [] => rfl
  | x :: l => by rw [List.flatMap_cons, List.map_append, map_flat f h l, List.flatMap_cons]
theorem nC_eq (c : List (Nat × Int)) : (codeRows c).map (·.1) = nC c := by
  unfold codeRows nC
  rw [List.map_cons, map_flat]
  rfl
theorem nums_eq (g : Game) : nums g = nS g.sizes ++ (nM g.moves ++ nR g.rounds) := by
  unfold nums rows sizeRows moveRows roundRows nS nM nR
  rw [List.map_append, List.map_append, List.map_cons, List.map_map, List.map_cons, map_flat, List.map_cons, map_flat]
  have e1 : ((fun x : Row => x.1) ∘ fun s : Int => ((s, 1, 65535) : Row)) = id := rfl
  have e3 : (fun x : List (Nat × Int) => (codeRows x).map fun r : Row => r.1) = nC := funext nC_eq
  rw [e1, List.map_id, e3]
  rfl
theorem flat_succ {α β : Type} {f : α → List β} {l : List α} {i : Nat} {x : α} (h : l[i]? = some x) : (l.take (i + 1)).flatMap f = (l.take i).flatMap f ++ f x := by
  rw [List.take_succ, h, List.flatMap_append]
  show _ ++ ([x].flatMap f) = _
  rw [List.flatMap_cons, List.flatMap_nil, List.append_nil]
theorem map_at {α β : Type} {f : α → β} {l : List α} {i : Nat} {d : β} (h : (l.map f)[i]? = some d) : ∃ x, l[i]? = some x ∧ d = f x := by
  rw [List.getElem?_map] at h
  cases e : l[i]? with
  | none =>
    rw [e] at h
    cases h
  | some x =>
    rw [e] at h
    cases h
    exact ⟨x, rfl, rfl⟩
section
variable {K : PySem.W.Frag} {H : Hp}
theorem dp_tupI {v : V} {ds : List PyData} (h : Dp K H v (.tuple ds)) : ∃ p xs, v = .ref p ∧ SqT K H p xs ∧ DpAll K H xs ds := by
  cases h with
  | tup hs ha => exact ⟨_, _, rfl, hs, ha⟩
theorem dp_listI {v : V} {ds : List PyData} (h : Dp K H v (.list ds)) : ∃ p xs, v = .ref p ∧ SqL K H p xs ∧ DpAll K H xs ds := by
  cases h with
  | lst hs ha => exact ⟨_, _, rfl, hs, ha⟩
theorem dp_pairI {v : V} {m : Int × Int} (h : Dp K H v (dPair m)) : ∃ p, v = .ref p ∧ SqT K H p [.int m.1, .int m.2] := by
  obtain ⟨p, xs, rfl, hs, ha⟩ := dp_tupI h
  cases ha with
  | cons h1 t =>
    cases t with
    | cons h2 t2 =>
      cases t2
      cases h1
      cases h2
      exact ⟨p, rfl, hs⟩
theorem dp_instrI {v : V} {x : Nat × Int} (h : Dp K H v (dInstr x)) : ∃ p, v = .ref p ∧ SqT K H p [.str (nm x.1), .int x.2] := by
  obtain ⟨p, xs, rfl, hs, ha⟩ := dp_tupI h
  cases ha with
  | cons h1 t =>
    cases t with
    | cons h2 t2 =>
      cases t2
      cases h1
      cases h2
      exact ⟨p, rfl, hs⟩
end
theorem nm_get {k : Nat} (h : k < 16) : names[k]? = some (nm k) := by
  have hl : names.length = 16 := rfl
  unfold nm
  rw [List.getD_eq_getElem?_getD, List.getElem?_eq_getElem (by rw [hl]; exact h)]
  rfl
theorem nm_ne {k m : Nat} (h : k < 16) (hm : m < k) : nm m ≠ nm k := by
  have q : ∀ k, k < 16 → ∀ m, m < k → ¬ nm m = nm k := by decide +kernel
  exact q k h m hm
theorem no_nm {k m : Nat} (h : k < 16) (hm : m < k) : names[m]? ≠ some (nm k) := by
  rw [nm_get (Nat.lt_trans hm h)]
  intro z
  exact nm_ne h hm (Option.some.inj z)
theorem ints_app (l : List Int) (m : List Int) : l.map V.int ++ m.map V.int = (l ++ m).map V.int := (List.map_append ..).symm
section
variable {P : Program} {w : World} {K : PySem.W.Frag} {mg : Str → Option Value} {base : Heap} {C CN CB CG fJ aN : Addr}
abbrev nPN : List Str := ["program", "numbers", "player", "count", "code", "name", "argument"]
theorem scPN : FnScope nPN ["program"] (defScope sPN) := ⟨rfl, rfl, rfl, by decide +kernel, rfl, by decide +kernel, by decide +kernel⟩
theorem ok_PN {f : Addr} {fd : FuncData} (F : Fun K "program_numbers" "program_numbers" sPN f fd) (T : Txt P K mg C CN CB CG fJ aN) : FnOk P w K mg base CX0 1 f fd ["program"] (spPN K C) := by
  refine F.ok scPN (fun vs H Q E h => ?_) (fun cdv A outer s H vs Q E hr h => ?_)
  · obtain ⟨x, g, rfl, _⟩ := h
    rfl
  · obtain ⟨x, g, rfl, hx, G, k⟩ := h
    refine ⟨_, pss_cons (ps_set (i := 1) scPN.nd rfl (Or.inl rfl) (pe_lst (pa_cons (pe_callB call_len_seq (by rfl) T.len PySem.boot_len (pa_cons (pe_fld (pv 0) rfl) pa_nil))
          (StX.pa_star (pe_fld (pv 0) rfl) (pa_cons (pe_callB call_len_seq (by rfl) T.len PySem.boot_len (pa_cons (pe_fld (pv 0) rfl) pa_nil)) pa_nil)))))
      (pss_cons (ps_for PassesOwn.never rfl (pi_tup (pe_fld (pv 0) rfl)) (pg_tup rfl (pgs_cons (pg_name (i := 2) scPN.nd rfl (Or.inl rfl)) (pgs_cons (pg_name (i := 3) scPN.nd rfl (Or.inl rfl)) pgs_nil)))
        (pss_one (ps_expr (pe_bm PySem.F.plainAttrs_list PySem.F.slot_list_extend PySem.F.type_list_extend mt_extend (pv 1) (pa_cons (pe_lst (pa_cons (pv 2) (pa_cons (pv 3) pa_nil))) pa_nil)))))
      (pss_cons (ps_expr (pe_bm PySem.F.plainAttrs_list PySem.F.slot_list_append PySem.F.type_list_append mt_append (pv 1) (pa_cons (pe_callB call_len_seq (by rfl) T.len PySem.boot_len (pa_cons (pe_fld (pv 0) rfl) pa_nil)) pa_nil)))
      (pss_cons (ps_for PassesOwn.never rfl (pi_tup (pe_fld (pv 0) rfl)) (pg_name (i := 4) scPN.nd rfl (Or.inl rfl))
        (pss_cons (ps_expr (pe_bm PySem.F.plainAttrs_list PySem.F.slot_list_append PySem.F.type_list_append mt_append (pv 1) (pa_cons (pe_callB call_len_seq (by rfl) T.len PySem.boot_len (pa_cons (pv 4) pa_nil)) pa_nil)))
        (pss_one (ps_for PassesOwn.never rfl (pi_tup (pv 4)) (pg_tup rfl (pgs_cons (pg_name (i := 5) scPN.nd rfl (Or.inl rfl)) (pgs_cons (pg_name (i := 6) scPN.nd rfl (Or.inl rfl)) pgs_nil)))
          (pss_one (ps_expr (pe_bm PySem.F.plainAttrs_list PySem.F.slot_list_extend PySem.F.type_list_extend mt_extend (pv 1) (pa_cons (pe_lst (pa_cons
            (pe_bm PySem.F.plainAttrs_tuple PySem.F.slot_tuple_index PySem.F.type_tuple_index mt_tup_index (pe_glob (v := .ref aN) rfl T.mgA rfl) (pa_cons (pv 5) pa_nil)) (pa_cons (pv 6) pa_nil))) pa_nil))))))))
      (pss_one (ps_ret (pv 1)))))), ?_⟩
    obtain ⟨a, dx, s1, m1, r1, rfl, h1, hs1, hm1, hr1⟩ := hx.ex
    obtain ⟨_, xs, e, sS, dS⟩ := dp_tupI hs1
    cases e
    obtain ⟨_, ms, e, sM, dM⟩ := dp_tupI hm1
    cases e
    obtain ⟨_, rs, e, sR, dR⟩ := dp_tupI hr1
    cases e
    have exs : xs = g.sizes.map V.int := of_ints dS
    subst exs
    have lS : (g.sizes.map V.int).length = g.sizes.length := List.length_map _
    have lM : ms.length = g.moves.length := by rw [dM.len, List.length_map]
    have lR : rs.length = g.rounds.length := by rw [dR.len, List.length_map]
    have Gs := G.sl
    have Gm := G.ml
    have Gr := G.rl
    -- numbers = [len(program.sizes), *program.sizes, len(program.moves)]
    refine ⟨_, rfl, a, C, dx, _, _, rfl, h1, T.clC, T.nSi, pf_s _ _ _, s1, _, rfl, .inr sS, _, rfl, a, C, dx, _, _, rfl, h1, T.clC, T.nSi, pf_s _ _ _, s1, _, rfl, .inl sS, _, rfl, a, C, dx, _, _, rfl, h1, T.clC, T.nMo, pf_m _ _ _, m1, _, rfl, .inr sM, ?_, fun D hD => ?_⟩
    · rw [List.length_cons, List.length_append, lS]
      show g.sizes.length + 1 + 1 ≤ sizeLine
      exact Nat.le_of_lt (lt_line (by omega))
    have e0 : ((V.int ((g.sizes.map V.int).length : Int)) :: (g.sizes.map V.int ++ [V.int (ms.length : Int)])) = (nS g.sizes ++ [(g.moves.length : Int)]).map V.int := by
      rw [lS, lM]
      unfold nS
      rw [List.map_append, List.map_cons]
      rfl
    have e0' : V.int ((g.sizes.map V.int).length : Int) :: (g.sizes.map V.int ++ [V.int (ms.length : Int)]) = (nS g.sizes ++ [(g.moves.length : Int)]).map V.int := e0
    rw [e0']
    have f0 : FmS [D] H (upd H D (.lst ((nS g.sizes ++ [(g.moves.length : Int)]).map V.int))) := FmS.new hD
    have hD0 : (upd H D (.lst ((nS g.sizes ++ [(g.moves.length : Int)]).map V.int))) D = some (.lst ((nS g.sizes ++ [(g.moves.length : Int)]).map V.int)) := upd_same
    generalize upd H D (.lst ((nS g.sizes ++ [(g.moves.length : Int)]).map V.int)) = H0 at f0 hD0
    have at0 : ∀ {H' : Hp}, FmS [D] H H' → H' a = some (.ins C dx (pf s1 m1 r1)) := fun f' => f'.same1 hD _ _ h1
    refine ⟨_, rfl, a, C, dx, _, _, rfl, at0 f0, T.clC, T.nMo, pf_m _ _ _, m1, rfl, ⟨_, sM.kp (Kp.of (f0.same1 hD))⟩, for_tup (xs := ms) (fun i σ H' => FmS [D] H H' ∧ (∃ l : List Int, l = nS g.sizes ++ (g.moves.length : Int) :: (g.moves.take i).flatMap fM ∧ l.length ≤ 14 + 2 * i ∧ H' D = some (.lst (l.map V.int))) ∧
      ∃ v2 v3 : Option V, σ = [some (.ref a), some (.ref D), v2, v3, none, none, none]) ⟨f0, ⟨_, rfl, by show (nS g.sizes ++ [(g.moves.length : Int)]).length ≤ 14; rw [List.length_append]; show g.sizes.length + 1 + 1 ≤ 14; omega, hD0⟩, none, none, rfl⟩
      (fun i σ H' hi q => sM.kp (Kp.of (q.1.same1 hD))) ?_ ?_⟩
    · rintro i x σ H' hxi ⟨f', ⟨l, el, hl, hDl⟩, v2, v3, rfl⟩
      obtain ⟨d, hd, hdx⟩ := dM.get hxi
      obtain ⟨mv, hmv, rfl⟩ := map_at hd
      obtain ⟨p, rfl, hp⟩ := dp_pairI hdx
      have hil := (List.getElem?_eq_some_iff.mp hmv).1
      have pD : ∀ {u : Addr}, H' u = none → u ≠ D := fun n => ne_of_some hDl n
      refine ⟨p, _, rfl, hp.kp (Kp.of (f'.same1 hD)), rfl, _, _, rfl, _, _, rfl, rfl, ⟨_, rfl, .inl ⟨rfl, _, SqL.of hDl⟩, _, rfl, _, rfl, by show 2 ≤ sizeLine; decide, fun u hu => ⟨D, u, _, _, rfl, rfl, by rw [upd_ne (Ne.symm (pD hu))]; exact hDl, upd_same, ?_, ?_⟩⟩⟩
      · rw [List.length_map]
        show l.length + 2 ≤ sizeLine
        exact Nat.le_of_lt (lt_line (by omega))
      · refine ⟨f'.trans ((FmS.new hu).trans (FmS.set in1)), ⟨l ++ fM mv, ?_, ?_, ?_⟩, _, _, rfl⟩
        · rw [flat_succ hmv, el, List.append_assoc]
          rfl
        · rw [List.length_append]
          show l.length + 2 ≤ _
          omega
        · rw [upd_same, List.map_append]
          rfl
    · rintro σ H' ⟨f', ⟨l, el, hl, hDl⟩, v2, v3, rfl⟩
      rw [lM, List.take_length] at el
      have el : l = nS g.sizes ++ nM g.moves := el
      -- numbers.append(len(program.rounds))
      refine ⟨_, rfl, .inl ⟨rfl, _, SqL.of hDl⟩, _, rfl, a, C, dx, _, _, rfl, at0 f', T.clC, T.nRo, pf_r _ _ _, r1, _, rfl, .inr (sR.kp (Kp.of (f'.same1 hD))), D, _, _, rfl, rfl, hDl, by rw [List.length_map]; exact lt_line (by omega), ?_⟩
      rw [lR]
      have f1 : FmS [D] H (upd H' D (.lst (l.map V.int ++ [V.int (g.rounds.length : Int)]))) := f'.trans (FmS.set in1)
      have hD1 : (upd H' D (.lst (l.map V.int ++ [V.int (g.rounds.length : Int)]))) D = some (.lst ((l ++ [(g.rounds.length : Int)]).map V.int)) := by
        rw [upd_same, List.map_append]
        rfl
      generalize upd H' D (.lst (l.map V.int ++ [V.int (g.rounds.length : Int)])) = H1 at f1 hD1
      refine ⟨_, rfl, a, C, dx, _, _, rfl, at0 f1, T.clC, T.nRo, pf_r _ _ _, r1, rfl, ⟨_, sR.kp (Kp.of (f1.same1 hD))⟩, for_tup (xs := rs) (fun i σ H' => FmS [D] H H' ∧ (∃ m : List Int, m = l ++ (g.rounds.length : Int) :: (g.rounds.take i).flatMap nC ∧ m.length ≤ 63 + 21 * i ∧ H' D = some (.lst (m.map V.int))) ∧
        ∃ v2 v3 v4 v5 v6 : Option V, σ = [some (.ref a), some (.ref D), v2, v3, v4, v5, v6]) ⟨f1, ⟨_, rfl, by show (l ++ [(g.rounds.length : Int)]).length ≤ 63; rw [List.length_append]; show l.length + 1 ≤ 63; omega, hD1⟩, _, _, _, _, _, rfl⟩
        (fun i σ H' hi q => sR.kp (Kp.of (q.1.same1 hD))) ?_ ?_⟩
      · rintro i x σ H' hxi ⟨f', ⟨m, em, hml, hDm⟩, v2, v3, v4, v5, v6, rfl⟩
        obtain ⟨d, hd, hdx⟩ := dR.get hxi
        obtain ⟨c, hc, rfl⟩ := map_at hd
        obtain ⟨p, cs, rfl, sC, dC⟩ := dp_tupI hdx
        have hil := (List.getElem?_eq_some_iff.mp hc).1
        have Gc := G.r c (List.mem_of_getElem? hc)
        have lC : cs.length = c.length := by rw [dC.len, List.length_map]
        -- numbers.append(len(code))
        refine ⟨_, rfl, .inl ⟨rfl, _, SqL.of hDm⟩, _, rfl, p, cs, rfl, .inr (sC.kp (Kp.of (f'.same1 hD))), D, _, _, rfl, rfl, hDm, by rw [List.length_map]; exact lt_line (by omega), ?_⟩
        rw [lC]
        have f2 : FmS [D] H (upd H' D (.lst (m.map V.int ++ [V.int (c.length : Int)]))) := f'.trans (FmS.set in1)
        have hD2 : (upd H' D (.lst (m.map V.int ++ [V.int (c.length : Int)]))) D = some (.lst ((m ++ [(c.length : Int)]).map V.int)) := by
          rw [upd_same, List.map_append]
          rfl
        generalize upd H' D (.lst (m.map V.int ++ [V.int (c.length : Int)])) = H2 at f2 hD2
        refine ⟨_, rfl, p, rfl, ⟨_, sC.kp (Kp.of (f2.same1 hD))⟩, for_tup (xs := cs) (fun j σ H' => FmS [D] H H' ∧ (∃ n : List Int, n = m ++ (c.length : Int) :: (c.take j).flatMap fI ∧ n.length ≤ 64 + 21 * i + 2 * j ∧ H' D = some (.lst (n.map V.int))) ∧
          ∃ v2 v3 v5 v6 : Option V, σ = [some (.ref a), some (.ref D), v2, v3, some (.ref p), v5, v6]) ⟨f2, ⟨_, rfl, by show (m ++ [(c.length : Int)]).length ≤ _; rw [List.length_append]; show m.length + 1 ≤ _; omega, hD2⟩, _, _, _, _, rfl⟩
          (fun i σ H' hi q => sC.kp (Kp.of (q.1.same1 hD))) ?_ ?_⟩
        · rintro j y σ H' hyj ⟨f', ⟨n, en, hnl, hDn⟩, v2, v3, v5, v6, rfl⟩
          obtain ⟨d, hd, hdy⟩ := dC.get hyj
          obtain ⟨x, hx, rfl⟩ := map_at hd
          obtain ⟨q, rfl, hq⟩ := dp_instrI hdy
          have hjl := (List.getElem?_eq_some_iff.mp hx).1
          have Gx := Gc.2 x (List.mem_of_getElem? hx)
          obtain ⟨oN, its, nN, hk, hc1, hc2, _⟩ := T.namesT
          refine ⟨q, _, rfl, hq.kp (Kp.of (f'.same1 hD)), rfl, _, _, rfl, _, _, rfl, rfl, ⟨_, rfl, .inl ⟨rfl, _, SqL.of hDn⟩, .inr (.inl ⟨rfl, oN, hk, hc1, hc2⟩), _, rfl, aN, names, nm x.1, x.1, rfl, rfl, names_sq T _, nm_get Gx.1, fun m hm => no_nm Gx.1 hm, _, rfl, by show 2 ≤ sizeLine; decide, fun u hu => ?_⟩⟩
          have uD : u ≠ D := ne_of_some hDn hu
          refine ⟨D, u, _, _, rfl, rfl, by rw [upd_ne (Ne.symm uD)]; exact hDn, upd_same, ?_, ?_⟩
          · rw [List.length_map]
            show n.length + 2 ≤ sizeLine
            exact Nat.le_of_lt (lt_line (by omega))
          · refine ⟨f'.trans ((FmS.new hu).trans (FmS.set in1)), ⟨n ++ fI x, ?_, ?_, ?_⟩, _, _, _, _, rfl⟩
            · rw [flat_succ hx, en, List.append_assoc]
              rfl
            · rw [List.length_append]
              show n.length + 2 ≤ _
              omega
            · rw [upd_same, List.map_append]
              rfl
        · rintro σ H' ⟨f', ⟨n, en, hnl, hDn⟩, v2, v3, v5, v6, rfl⟩
          rw [lC, List.take_length] at en
          refine ⟨f', ⟨n, ?_, by omega, hDn⟩, _, _, _, _, _, rfl⟩
          rw [flat_succ hc, en, em, List.append_assoc]
          rfl
      · rintro σ H' ⟨f', ⟨m, em, hml, hDm⟩, v2, v3, v4, v5, v6, rfl⟩
        rw [lR, List.take_length] at em
        refine ⟨_, rfl, k D H' (f'.same1 hD) hD ?_⟩
        rw [hDm, em, el, nums_eq, List.append_assoc]
        rfl
end
end K79
/-! read_program. -/
namespace K79
open PySem L2
theorem RdAt.upd {C : Addr} {H : Hp} {r l D : Addr} {ns : List Int} {i : Nat} {o : HO} (h : RdAt C H r l ns i) (n1 : D ≠ r) (n2 : D ≠ l) : RdAt C (upd H D o) r l ns i := by
  obtain ⟨dx, h1, h2⟩ := h
  exact ⟨dx, by rw [upd_ne (Ne.symm n1)]; exact h1, by rw [upd_ne (Ne.symm n2)]; exact h2⟩
theorem RdAt.ne {C : Addr} {H : Hp} {r l D : Addr} {ns : List Int} {i : Nat} (h : RdAt C H r l ns i) (n : H D = none) : D ≠ r ∧ D ≠ l := by
  obtain ⟨dx, h1, h2⟩ := h
  exact ⟨ne_of_some h1 n, ne_of_some h2 n⟩
theorem len_app {α : Type} {l : List α} {x : α} {t : Nat} (h : l.length = t) : (l ++ [x]).length = t + 1 := by rw [List.length_append, h]; rfl
section
variable {P : Program} {w : World} {K : PySem.W.Frag} {mg : Str → Option Value} {base : Heap} {C CN CB CG fI aN : Addr}
abbrev nRP : List Str := ["numbers", "reader", "_", "sizes", "moves", "player", "rounds"]
theorem scRP : FnScope nRP ["numbers"] (defScope sRP) := ⟨rfl, rfl, rfl, by decide +kernel, rfl, by decide +kernel, by decide +kernel⟩
theorem ok_RP {f fP fE fN fT fK : Addr} {fd fdP fdE fdN fdT fdK : FuncData} (F : Fun K "read_program" "read_program" sRP f fd) (M : NumC K CN fN fT fK fdN fdT fdK) (MP : ProC K C fP fE fdP fdE) (T : Txt P K mg C CN CB CG fI aN) :
    FnOk P w K mg base (L2.CX P w) 3 f fd ["numbers"] (spRP K C CB) := by
  have GN : FnOk P w K mg base CX0 1 fN fdN ["self", "numbers"] (spNI K CN) := ok_NI M.FN T
  have GT : FnOk P w K mg base (L2.CX P w) 1 fT fdT ["self", "least", "most"] (spNT CN CB) := ok_NT M.FT T
  have GK : FnOk P w K mg base (L2.CX P w) 2 fK fdK ["self"] (spNC K CN CB) := ok_NC M T
  have GP : FnOk P w K mg base CX0 1 fP fdP ["self", "sizes", "moves", "rounds"] (spPI K C) := ok_PI MP.FP T
  obtain ⟨gt, hG⟩ := T.greatest
  obtain ⟨vt, hV⟩ := T.mostV
  obtain ⟨bt, hB⟩ := T.mostB
  obtain ⟨mt, hM⟩ := T.mostM
  obtain ⟨rt, hR⟩ := T.mostR
  refine F.okX scRP (fun vs H Q E h => ?_) (fun cdv A outer s H vs Q E hr h => ?_)
  · obtain ⟨a, ns, rfl, _⟩ := h
    rfl
  · obtain ⟨a, ns, rfl, hS, kO, kE⟩ := h
    have hr1 : Room 1 _ := hr.mono (by decide)
    refine ⟨_, pss_cons (ps_set (i := 1) scRP.nd rfl (Or.inr rfl) (pe_make M.made GN hr rfl T.mgN M.bN .nil pass0 (pa_cons (pv 0) pa_nil)))
      (pss_cons (ps_setLcX (i := 3) (E := E) (own := [("_", 2)]) (g := gName 2) rfl scRP.nd rfl rfl (takes_of rfl rfl rfl rfl) rfl rfl (sw_true rfl rfl rfl (by decide +kernel))
          (pi_range1 (by rfl) T.range (pa_cons (pe_meth (pv 1) T.clN M.mT GT hr1 M.bT .nil (passes_call (W := fun cls d _ H => E cls d H) (takes_of rfl rfl rfl rfl) (fun _ _ _ _ h => h)) (pa_cons pe_int (pa_cons (pe_glob (v := .int 12) rfl hV ⟨_, rfl⟩) pa_nil))) pa_nil))
          (blkOk_by (N := nRP) (sc := defScope sRP) (by decide +kernel)) (fun _ _ _ _ _ => pg_name (i := 2) scRP.nd rfl (Or.inl rfl))
          (fun _ _ _ _ _ => pe_meth (pv 1) T.clN M.mT GT hr1 M.bT .nil passB (pa_cons pe_int (pa_cons (pe_glob (v := .int 65535) rfl hG ⟨_, rfl⟩) pa_nil)))
          (fun _ => rfl))
      (pss_cons (ps_set (i := 4) scRP.nd rfl (Or.inl rfl) (pe_lst pa_nil))
      (pss_cons (ps_for (passes_of rfl) rfl (pi_range1 (by rfl) T.range (pa_cons (pe_meth (pv 1) T.clN M.mT GT hr1 M.bT .nil (passes_call (W := fun cls d _ H => E cls d H) (takes_of rfl rfl rfl rfl) (fun _ _ _ _ h => h)) (pa_cons pe_int (pa_cons (pe_glob (v := .int 24) rfl hB ⟨_, rfl⟩) pa_nil))) pa_nil)) (pg_name (i := 2) scRP.nd rfl (Or.inl rfl))
        (pss_cons (ps_set (i := 5) scRP.nd rfl (Or.inl rfl) (pe_meth (pv 1) T.clN M.mT GT hr1 M.bT .nil (passes_call (W := fun cls d _ H => E cls d H) (takes_of rfl rfl rfl rfl) (fun _ _ _ _ h => h)) (pa_cons pe_int (pa_cons pe_int pa_nil))))
        (pss_one (ps_expr (pe_bm PySem.F.plainAttrs_list PySem.F.slot_list_append PySem.F.type_list_append mt_append (pv 4) (pa_cons (pe_tup (pa_cons (pv 5) (pa_cons
          (pe_meth (pv 1) T.clN M.mT GT hr1 M.bT .nil (passes_call (W := fun cls d _ H => E cls d H) (takes_of rfl rfl rfl rfl) (fun _ _ _ _ h => h)) (pa_cons pe_int (pa_cons (pe_glob (v := .int 8) rfl hM ⟨_, rfl⟩) pa_nil))) pa_nil))) pa_nil))))))
      (pss_cons (ps_setLcX (i := 6) (E := E) (own := [("_", 2)]) (g := gName 2) rfl scRP.nd rfl rfl (takes_of rfl rfl rfl rfl) rfl rfl (sw_true rfl rfl rfl (by decide +kernel))
          (pi_range1 (by rfl) T.range (pa_cons (pe_meth (pv 1) T.clN M.mT GT hr1 M.bT .nil (passes_call (W := fun cls d _ H => E cls d H) (takes_of rfl rfl rfl rfl) (fun _ _ _ _ h => h)) (pa_cons pe_int (pa_cons (pe_glob (v := .int 8) rfl hR ⟨_, rfl⟩) pa_nil))) pa_nil))
          (blkOk_by (N := nRP) (sc := defScope sRP) (by decide +kernel)) (fun _ _ _ _ _ => pg_name (i := 2) scRP.nd rfl (Or.inl rfl))
          (fun _ _ _ _ _ => pe_meth0 (pv 1) T.clN M.mK GK hr M.bK .nil passB)
          (fun _ => rfl))
      (pss_cons (ps_if (pt_cmpR op_lt (pe_fld (pv 1) rfl) (pe_callB call_len_seq (by rfl) T.len PySem.boot_len (pa_cons (pe_fld (pv 1) rfl) pa_nil)) (nomark _))
        (pss_one (ps_raiseBad rfl T.bad hr1 (takes_of rfl rfl rfl rfl) (pa_cons (pe_fld (pv 1) rfl) pa_nil))) pss_nil)
      (pss_one (ps_ret (pe_make MP.made GP hr rfl T.mgC MP.bP .nil pass0 (pa_cons (pv 3) (pa_cons (pv 4) (pa_cons (pv 6) pa_nil))))))))))), ?_⟩
    -- reader = Numbers(numbers)
    refine ⟨_, rfl, fun r dx hr0 hdx ndx => ⟨r, dx, a, ns, rfl, upd_same, ?_, fun l H1 hR1 f1 => ⟨rfl, ?_⟩⟩⟩
    · exact hS.kp (Kp.of ((same_upd hdx).trans (same_upd (by rw [upd_ne (Ne.symm ndx)]; exact hr0))))
    have f1 : Fm r H H1 := ((Fm.of (same_upd hdx)).trans Fm.upd).trans f1
    have s1 : Same H H1 := f1.same hr0
    obtain ⟨dx1, hi1, hl1⟩ := id hR1
    -- sizes
    refine ⟨_, rfl, r, dx1, _, rfl, hi1, no_take _ _, r, 0, 12, rfl, l, ns, 0, hR1, fun n i1 hok v H2 hR2 f2 ev => ?_, fun j he d H2 f2 hx => kE j (then_err (then_err he)) d H2 ((f1.trans f2).same hr0) hx⟩
    subst ev
    obtain ⟨hn0, hn1⟩ := take1_ok hok
    have hsz : sizesP ns 0 = rep (take1 1 65535) n.toNat ns i1 := then_ok hok
    refine ⟨n, rfl, by omega, by omega, fun D hD => ?_⟩
    obtain ⟨dr, dl⟩ := hR2.ne hD
    refine lc_range (lo := 0) (n := n.toNat) (fun t H' => ∃ (i' : Nat) (q : List Int), q.length = t ∧ RdAt CN H' r l ns i' ∧ FmS [D, r] H2 H' ∧ H' D = some (.lst (q.map V.int)) ∧
        sizesP ns 0 = andThen (rep (take1 1 65535) (n.toNat - t) ns i') (fun xs i2 => .ok (q ++ xs, i2)))
      ⟨i1, [], rfl, hR2.same (same_upd hD), FmS.new hD, upd_same, hsz.trans then_id.symm⟩ ?_ ?_
    · rintro t H' ht ⟨i', q, hq, hR', f', hD', heq⟩
      obtain ⟨m, hm⟩ : ∃ m, n.toNat - t = m + 1 := ⟨n.toNat - t - 1, by omega⟩
      rw [hm] at heq
      obtain ⟨dx', hi', hl'⟩ := id hR'
      have fr : FmS [r] H1 H' := FmS.drop ((FmS.fm f2 in2).trans f') ((FmS.fm f2 in1).free hD (not1 dr))
      have fH : ∀ {H3 : Hp}, Fm r H' H3 → Same H H3 := fun f3 => FmS.same1 (((FmS.fm f1 in1).trans fr).trans (FmS.fm f3 in1)) hr0
      refine ⟨rfl, _, rfl, r, dx', _, rfl, hi', no_take _ _, r, 1, 65535, rfl, l, ns, i', hR', fun x i2 hok2 v H3 hR3 f3 ev => ?_, fun j he d H3 f3 hx => kE j (then_err (heq.trans (rep_err he))) d H3 (fH f3) hx⟩
      subst ev
      refine ⟨q.map V.int, f3 _ _ hD' dr, by rw [List.length_map]; exact lt_line (by omega), i2, q ++ [x], len_app hq, hR3.upd dr dl, (f'.trans (FmS.fm f3 in2)).trans (FmS.set List.mem_cons_self), ?_, ?_⟩
      · rw [List.map_append]
        exact upd_same
      · rw [heq, rep_ok (k := fun xs i2 => .ok (xs, i2)) hok2, show n.toNat - (t + 1) = m by omega]
    rintro H3 ⟨i2, qs, hqs, hR3, f3, hD3, heq⟩
    rw [Nat.sub_self] at heq
    have hs1 : sizesP ns 0 = .ok (qs, i2) := heq.trans (by show (.ok (qs ++ [], i2) : Ans (List Int)) = _; rw [List.append_nil])
    have hp1 : readP ns = andThen (movesP ns i2) fun m i2 => andThen (roundsP ns i2) fun r i3 => if i3 < ns.length then .error i3 else .ok ⟨qs, m, r⟩ := then_ok hs1
    have F3 : FmS [r] H H3 := (FmS.fm f1 in1).trans (FmS.drop ((FmS.fm f2 in2).trans f3) ((FmS.fm f2 in1).free hD (not1 dr)))
    clear heq hsz hok f3
    -- moves = []
    refine ⟨by show 0 ≤ sizeLine; decide, fun M hM => ?_⟩
    obtain ⟨mr, ml⟩ := hR3.ne hM
    have md : M ≠ D := ne_of_some hD3 hM
    have F4 : FmS [r] H (upd H3 M (.lst [])) := F3.trans (FmS.new hM)
    have hR4 := hR3.upd (o := .lst []) mr ml
    have hD4 : (upd H3 M (.lst [])) D = some (.lst (qs.map V.int)) := by rw [upd_ne (Ne.symm md)]; exact hD3
    have hM4 : (upd H3 M (.lst [])) M = some (.lst []) := upd_same
    have hMH : H M = none := F3.free hM (not1 mr)
    generalize upd H3 M (.lst []) = H4 at F4 hR4 hD4 hM4
    obtain ⟨dx4, hi4, hl4⟩ := id hR4
    refine ⟨_, rfl, r, dx4, _, rfl, hi4, no_take _ _, r, 0, 24, rfl, l, ns, i2, hR4, fun n i3 hok v H5 hR5 f5 ev => ?_, fun j he d H5 f5 hx => kE j (hp1.trans (then_err (then_err he))) d H5 (FmS.same1 (F4.trans (FmS.fm f5 in1)) hr0) hx⟩
    subst ev
    obtain ⟨hn0, hn1⟩ := take1_ok hok
    have hmv : movesP ns i2 = rep pairP n.toNat ns i3 := then_ok hok
    refine ⟨n, rfl, by omega, by omega, for_range (lo := 0) (n := n.toNat) (fun t σ H' => ∃ (i' : Nat) (vs : List V) (q : List (Int × Int)), q.length = t ∧ vs.length = t ∧ RdAt CN H' r l ns i' ∧ FmS [M, r] H4 H' ∧ H' M = some (.lst vs) ∧ DpAll K (offS [M, r] H') vs (q.map dPair) ∧
        movesP ns i2 = andThen (rep pairP (n.toNat - t) ns i') (fun xs i2 => .ok (q ++ xs, i2)) ∧ ∃ v2 v5 : Option V, σ = [some (.ref a), some (.ref r), v2, some (.ref D), some (.ref M), v5, none])
      ⟨i3, [], [], rfl, rfl, hR5, FmS.fm f5 in2, f5 _ _ hM4 mr, .nil, hmv.trans then_id.symm, _, _, rfl⟩ ?_ ?_⟩
    · rintro t σ H' ht ⟨i', vs, q, hq, hvl, hR', f', hM', hall, heq, v2, v5, rfl⟩
      obtain ⟨m, hm⟩ : ∃ m, n.toNat - t = m + 1 := ⟨n.toNat - t - 1, by omega⟩
      rw [hm] at heq
      obtain ⟨dx', hi', hl'⟩ := id hR'
      have fr : FmS [r] H H' := FmS.drop ((F4.mono sub_tl).trans f') hMH
      have fH : ∀ {H3 : Hp}, Fm r H' H3 → Same H H3 := fun f3 => FmS.same1 (fr.trans (FmS.fm f3 in1)) hr0
      refine ⟨_, rfl, r, dx', _, rfl, hi', no_take _ _, r, 1, 2, rfl, l, ns, i', hR', fun x j1 hok2 v Ha hRa fa ev => ?_, fun j he d H3 f3 hx => kE j (hp1.trans (then_err (heq.trans (rep_err (then_err he))))) d H3 (fH f3) hx⟩
      subst ev
      have hMa := fa _ _ hM' mr
      obtain ⟨dxa, hia, hla⟩ := id hRa
      refine ⟨_, rfl, .inl ⟨rfl, _, SqL.of hMa⟩, _, rfl, _, rfl, r, dxa, _, rfl, hia, no_take _ _, r, 1, 8, rfl, l, ns, j1, hRa, fun y j2 hok3 v Hb hRb fb ev => ?_, fun j he d H3 f3 hx => kE j (hp1.trans (then_err (heq.trans (rep_err ((then_ok hok2).trans (then_err he)))))) d H3 (fH (fa.trans f3)) hx⟩
      subst ev
      refine ⟨by show 2 ≤ sizeLine; decide, fun u hu => ?_⟩
      have hMb := fb _ _ hMa mr
      have um : u ≠ M := ne_of_some hMb hu
      obtain ⟨ur, ul⟩ := hRb.ne hu
      refine ⟨M, vs, _, rfl, rfl, by rw [upd_ne (Ne.symm um)]; exact hMb, lt_line (by omega), ?_⟩
      have frame : FmS [M, r] H' (upd (upd Hb u (.tup [.int x, .int y])) M (.lst (vs ++ [.ref u]))) := (((FmS.fm fa in2).trans (FmS.fm fb in2)).trans (FmS.new hu)).trans (FmS.set List.mem_cons_self)
      refine ⟨j2, vs ++ [.ref u], q ++ [(x, y)], len_app hq, len_app hvl, (hRb.upd ur ul).upd mr ml, f'.trans frame, upd_same, ?_, ?_, _, _, rfl⟩
      · rw [List.map_append]
        refine grown hall frame (.tup (SqT.of (offS_at ?_ (not2 um ur))) (.cons (.int _) (.cons (.int _) .nil)))
        rw [upd_ne um]
        exact upd_same
      · rw [heq, rep_ok (k := fun xs i2 => .ok (xs, i2)) (x := (x, y)) ((then_ok hok2).trans (then_ok hok3)), show n.toNat - (t + 1) = m by omega]
    rintro σ H6 ⟨i4, ms, qm, hqm, hms, hR6, f6, hM6, hallM, heq, v2, v5, rfl⟩
    rw [Nat.sub_self] at heq
    have hm1 : movesP ns i2 = .ok (qm, i4) := heq.trans (by show (.ok (qm ++ [], i4) : Ans (List (Int × Int))) = _; rw [List.append_nil])
    have hp2 : readP ns = andThen (roundsP ns i4) fun r i3 => if i3 < ns.length then .error i3 else .ok ⟨qs, qm, r⟩ := hp1.trans (then_ok hm1)
    have F6 : FmS [r] H H6 := FmS.drop ((F4.mono sub_tl).trans f6) hMH
    have hD6 : H6 D = some (.lst (qs.map V.int)) := f6 _ _ hD4 (not2 (Ne.symm md) dr)
    clear heq hmv hok f6 f5 hR5
    -- rounds
    obtain ⟨dx6, hi6, hl6⟩ := id hR6
    refine ⟨_, rfl, r, dx6, _, rfl, hi6, no_take _ _, r, 0, 8, rfl, l, ns, i4, hR6, fun n i5 hok v H7 hR7 f7 ev => ?_, fun j he d H7 f7 hx => kE j (hp2.trans (then_err (then_err he))) d H7 (FmS.same1 (F6.trans (FmS.fm f7 in1)) hr0) hx⟩
    subst ev
    obtain ⟨hn0, hn1⟩ := take1_ok hok
    have hrd : roundsP ns i4 = rep codeP n.toNat ns i5 := then_ok hok
    refine ⟨n, rfl, by omega, by omega, fun R hRn => ?_⟩
    obtain ⟨rr, rl⟩ := hR7.ne hRn
    have hD7 := f7 _ _ hD6 dr
    have hM7 := f7 _ _ hM6 mr
    have F7 : FmS [r] H H7 := F6.trans (FmS.fm f7 in1)
    have hRH : H R = none := F7.free hRn (not1 rr)
    have rd : R ≠ D := ne_of_some hD7 hRn
    have rm : R ≠ M := ne_of_some hM7 hRn
    refine lc_range (lo := 0) (n := n.toNat) (fun t H' => ∃ (i' : Nat) (vs : List V) (q : List (List (Nat × Int))), q.length = t ∧ vs.length = t ∧ RdAt CN H' r l ns i' ∧ FmS [R, r] H7 H' ∧ H' R = some (.lst vs) ∧ DpAll K (offS [R, r] H') vs (q.map fun c => .list (c.map dInstr)) ∧
        roundsP ns i4 = andThen (rep codeP (n.toNat - t) ns i') (fun xs i2 => .ok (q ++ xs, i2)))
      ⟨i5, [], [], rfl, rfl, hR7.same (same_upd hRn), FmS.new hRn, upd_same, .nil, hrd.trans then_id.symm⟩ ?_ ?_
    · rintro t H' ht ⟨i', vs, q, hq, hvl, hR', f', hRl, hall, heq⟩
      obtain ⟨m, hm⟩ : ∃ m, n.toNat - t = m + 1 := ⟨n.toNat - t - 1, by omega⟩
      rw [hm] at heq
      obtain ⟨dx', hi', hl'⟩ := id hR'
      have fr : FmS [r] H H' := FmS.drop ((F7.mono sub_tl).trans f') hRH
      have fH : ∀ {H3 : Hp}, Fm r H' H3 → Same H H3 := fun f3 => FmS.same1 (fr.trans (FmS.fm f3 in1)) hr0
      refine ⟨rfl, _, rfl, r, dx', _, rfl, hi', no_takec _ _, r, rfl, l, ns, i', hR', fun c i2 hok2 v H3 hR3 f3 hv => ?_, fun j he d H3 f3 hx => kE j (hp2.trans (then_err (heq.trans (rep_err he)))) d H3 (fH f3) hx⟩
      have frame : FmS [R, r] H' (upd H3 R (.lst (vs ++ [v]))) := (FmS.fm f3 in2).trans (FmS.set List.mem_cons_self)
      refine ⟨vs, f3 _ _ hRl rr, lt_line (by omega), i2, vs ++ [v], q ++ [c], len_app hq, len_app hvl, hR3.upd rr rl, f'.trans frame, upd_same, ?_, ?_⟩
      · rw [List.map_append]
        refine grown hall frame (hv.kp (.of fun b o e => ?_))
        obtain ⟨e1, e2⟩ := fresh_get e
        have bR : b ≠ R := ne_of_some hRl e2
        exact offS_at (by rw [upd_ne bR]; exact e1) (not2 bR (ne_of_some hi' e2))
      · rw [heq, rep_ok (k := fun xs i2 => .ok (xs, i2)) hok2, show n.toNat - (t + 1) = m by omega]
    rintro H8 ⟨i6, rs, qr, hqr, hrs, hR8, f8, hR8l, hallR, heq⟩
    rw [Nat.sub_self] at heq
    have hr2 : roundsP ns i4 = .ok (qr, i6) := heq.trans (by show (.ok (qr ++ [], i6) : Ans (List (List (Nat × Int)))) = _; rw [List.append_nil])
    have hp3 : readP ns = if i6 < ns.length then .error i6 else .ok ⟨qs, qm, qr⟩ := hp2.trans (then_ok hr2)
    have F8 : FmS [r] H H8 := FmS.drop ((F7.mono sub_tl).trans f8) hRH
    have S8 : Same H H8 := FmS.same1 F8 hr0
    have hD8 : H8 D = some (.lst (qs.map V.int)) := f8 _ _ hD7 (not2 (Ne.symm rd) dr)
    have hM8 : H8 M = some (.lst ms) := f8 _ _ hM7 (not2 (Ne.symm rm) mr)
    obtain ⟨dx8, hi8, hl8⟩ := id hR8
    -- if reader.at < len(reader.numbers)
    refine ⟨_, rfl, r, CN, dx8, _, _, rfl, hi8, T.clN, T.nAt, rf_at l i6, _, rfl, r, CN, dx8, _, _, rfl, hi8, T.clN, T.nNu, rf_nu l i6, l, _, rfl, .inl (SqL.of hl8), _, _, rfl, rfl, _, rfl, ite2 (fun c => ?_) fun c => ?_⟩
    · have c : (i6 : Int) < ((ns.map V.int).length : Int) := of_decide_eq_true c
      rw [List.length_map] at c
      exact ⟨_, rfl, r, CN, dx8, _, _, rfl, hi8, T.clN, T.nAt, rf_at l i6, _, rfl, fun d hd => kE i6 (hp3.trans (if_pos (by omega))) d _ (S8.trans (same_upd hd)) upd_same⟩
    · have c : ¬ ((i6 : Int) < ((ns.map V.int).length : Int)) := fun z => c (decide_eq_true z)
      rw [List.length_map] at c
      have hok : readP ns = .ok ⟨qs, qm, qr⟩ := hp3.trans (if_neg (by omega))
      refine ⟨_, rfl, _, rfl, _, rfl, fun x dx hx hdx nd => ?_⟩
      have s9 : Same H8 (upd (upd H8 dx (.own x)) x (.ins C dx [])) := (same_upd hdx).trans (same_upd (by rw [upd_ne (Ne.symm nd)]; exact hx))
      have kpM : Kp (offS [M, r] H6) (upd (upd H8 dx (.own x)) x (.ins C dx [])) := .of fun b o e => by
        obtain ⟨e1, e2⟩ := offS_get e
        have bR : b ≠ R := ne_of_none (f7 _ _ e1 (fun z => e2 (by rw [z]; exact in2))) hRn
        exact s9 _ _ (f8 _ _ (f7 _ _ e1 (fun z => e2 (by rw [z]; exact in2))) (not2 bR (fun z => e2 (by rw [z]; exact in2))))
      refine ⟨x, dx, _, _, _, ⟨qs, qm, qr⟩, rfl, upd_same, by show qr.length ≤ 1000; omega, .lst (SqL.of (s9 _ _ hD8)) (dp_ints _), .lst (SqL.of (s9 _ _ hM8)) (hallM.kp kpM), .lst (SqL.of (s9 _ _ hR8l)) (hallR.kp (.of (offS_all.trans s9))), fun H' hP f => ⟨rfl, kO _ hok _ _ ?_ hP⟩⟩
      refine S8.trans ((((Fm.of (same_upd hdx)).trans Fm.upd).trans f).same hx)
end
end K79
/-! _law_numbers. -/
namespace K79
open PySem L2
def gM (m : Int × Int) : List Row := [(m.1, 1, 2), (m.2, 1, 8)]
def gI (p : Nat × Int) : List Row := [((p.1 : Int), 0, 15), (p.2, 0, 65535)]
/-- a new list D of rows -/
structure NumL (K : PySem.W.Frag) (H H' : Hp) (D : Addr) (rws : List Row) : Prop where
  ex : ∃ vs : List V, H' D = some (.lst vs) ∧ vs.length = rws.length ∧ DpAll K (off D H') vs (rws.map dNum)
  same : Same H H'
  new : H D = none
section
variable {K : PySem.W.Frag} {H H1 H2 : Hp} {D D2 : Addr} {l l2 : List Row}
theorem NumL.make {us : List V} (s : Same H H1) (n : H1 D = none) (h : DpAll K H1 us (l.map dNum)) : NumL K H (upd H1 D (.lst us)) D l := by
  refine ⟨⟨us, upd_same, ?_, h.kp (.of fun b o e => ?_)⟩, s.trans (same_upd n), s.free n⟩
  · rw [h.len, List.length_map]
  · have nb := ne_of_none e n
    exact off_at (by rw [upd_ne nb]; exact e) nb
theorem NumL.all {vs : List V} (h : NumL K H H1 D l) (e : H1 D = some (.lst vs)) : vs.length = l.length ∧ DpAll K H1 vs (l.map dNum) := by
  obtain ⟨ws, e1, e2, e3⟩ := h.ex
  rw [e] at e1
  cases e1
  exact ⟨e2, e3.kp (.of off_same)⟩
theorem NumL.cat {vs us : List V} (h : NumL K H H1 D l) (e : H1 D = some (.lst vs)) (s : Same H1 H2) (h2 : DpAll K H2 us (l2.map dNum)) (n : H2 D2 = none) : NumL K H (upd H2 D2 (.lst (vs ++ us))) D2 (l ++ l2) := by
  refine NumL.make (h.same.trans s) n ?_
  rw [List.map_append]
  exact ((h.all e).2.kp (.of s)).app h2
theorem NumL.app {vs : List V} {v : V} {r : Row} (h : NumL K H H1 D l) (e : H1 D = some (.lst vs)) (s : Same H1 H2) (h2 : Dp K (off D H2) v (dNum r)) : NumL K H (upd H2 D (.lst (vs ++ [v]))) D (l ++ [r]) := by
  obtain ⟨ws, e1, e2, e3⟩ := h.ex
  rw [e] at e1
  cases e1
  have so : Same (off D H2) (off D (upd H2 D (.lst (vs ++ [v])))) := fun b o z => by
    obtain ⟨z1, z2⟩ := off_get z
    exact off_at (by rw [upd_ne z2]; exact z1) z2
  refine ⟨⟨_, upd_same, ?_, ?_⟩, fun b o z => ?_, h.new⟩
  · rw [List.length_append, e2, List.length_append]
    rfl
  · rw [List.map_append]
    exact (e3.kp (.of ((same_off s).trans so))).app (.one (h2.kp (.of so)))
  · rw [upd_ne (ne_of_none z h.new)]
    exact s _ _ (h.same _ _ z)
theorem row_new {a b c : Int} {t : Addr} : Dp K (upd H t (.tup [.int a, .int b, .int c])) (.ref t) (dNum (a, b, c)) := .tup (SqT.of upd_same) (.cons (.int _) (.cons (.int _) (.cons (.int _) .nil)))
theorem row_off {a b c : Int} {t : Addr} (n : t ≠ D) : Dp K (off D (upd H t (.tup [.int a, .int b, .int c]))) (.ref t) (dNum (a, b, c)) := .tup (SqT.of (off_at upd_same n)) (.cons (.int _) (.cons (.int _) (.cons (.int _) .nil)))
end
theorem eq_nm {k : Nat} (h : k < 16) : eqV (.str (nm k)) (.str (nm k)) = true := by
  have q : ∀ k, k < 16 → eqV (.str (nm k)) (.str (nm k)) = true := by decide +kernel
  exact q k h
theorem nq_nm {k m : Nat} {z : V} (h : k < 16) (hm : m < k) (e : (names.map V.str)[m]? = some z) : eqV z (.str (nm k)) = false := by
  rw [nm_at (Nat.lt_trans hm h)] at e
  cases e
  have q : ∀ k, k < 16 → ∀ m, m < k → eqV (.str (nm m)) (.str (nm k)) = false := by decide +kernel
  exact q k h m hm
theorem flat_names : (names.map V.str).all flatV = true := by decide +kernel
section
variable {P : Program} {w : World} {K : PySem.W.Frag} {mg : Str → Option Value} {base : Heap} {C CN CB CG fJ aN : Addr}
abbrev nLN : List Str := ["_law_row_here", "_law_numbers_here", "_law_size", "_law_move", "_law_code", "_law_pair"]
theorem scLN : FnScope nLN ["_law_row_here"] (defScope sLN) := ⟨rfl, rfl, rfl, by decide +kernel, rfl, by decide +kernel, by decide +kernel⟩
theorem ok_LN {f fC : Addr} {fd fdC : FuncData} (F : Fun K "_law_numbers" "_law_numbers" sLN f fd) (T : Txt P K mg C CN CB CG fJ aN) (DC : Gd K mg "_law_names_of_code" sNoc fC fdC []) :
    FnOk P w K mg base CX0 2 f fd ["_law_row_here"] (spLN K) := by
  have GC : FnOk P w K mg base CX0 1 fC fdC [] spNoc := ok_noc DC.F
  refine F.ok scLN (fun vs H Q E h => ?_) (fun cdv A outer s H vs Q E hr h => ?_)
  · obtain ⟨v, g, rfl, _⟩ := h
    rfl
  · obtain ⟨v, g, rfl, G, hv, k⟩ := h
    refine ⟨_, pss_cons (ps_set (i := 1) scLN.nd rfl (Or.inl rfl) (pe_op op_cat (pe_op op_cat
          (pe_lst (pa_cons (pe_tup (pa_cons (pe_callB call_len_seq (by rfl) T.len PySem.boot_len (pa_cons (pe_ix ix_tup (pv 0) pe_int (fun _ _ => rfl)) pa_nil)) (pa_cons pe_int (pa_cons pe_int pa_nil)))) pa_nil))
          (pe_lc (own := [("_law_size", 2)]) (g := gName 2) (tt := tYes) rfl scLN.nd (pi_tup (pe_ix ix_tup (pv 0) pe_int (fun _ _ => rfl))) (blkOk_by (N := nLN) (sc := defScope sLN) (by decide +kernel)) (fun _ _ _ _ _ => pg_name (i := 2) scLN.nd rfl (Or.inl rfl)) (fun _ _ _ _ _ => pts_nil)
            (fun _ _ _ _ _ => pe_tup (pa_cons (pv 2) (pa_cons pe_int (pa_cons pe_int pa_nil))))))
          (pe_lst (pa_cons (pe_tup (pa_cons (pe_callB call_len_seq (by rfl) T.len PySem.boot_len (pa_cons (pe_ix ix_tup (pv 0) pe_int (fun _ _ => rfl)) pa_nil)) (pa_cons pe_int (pa_cons pe_int pa_nil)))) pa_nil))))
      (pss_cons (ps_for PassesOwn.never rfl (pi_tup (pe_ix ix_tup (pv 0) pe_int (fun _ _ => rfl))) (pg_name (i := 3) scLN.nd rfl (Or.inl rfl))
        (pss_one (ps_set (i := 1) scLN.nd rfl (Or.inl rfl) (pe_op op_cat (pv 1) (pe_lst (pa_cons (pe_tup (pa_cons (pe_ix ix_tup (pv 3) pe_int (fun _ _ => rfl)) (pa_cons pe_int (pa_cons pe_int pa_nil))))
          (pa_cons (pe_tup (pa_cons (pe_ix ix_tup (pv 3) pe_int (fun _ _ => rfl)) (pa_cons pe_int (pa_cons pe_int pa_nil)))) pa_nil)))))))
      (pss_cons (ps_expr (pe_bm PySem.F.plainAttrs_list PySem.F.slot_list_append PySem.F.type_list_append mt_append (pv 1)
        (pa_cons (pe_tup (pa_cons (pe_callB call_len_seq (by rfl) T.len PySem.boot_len (pa_cons (pe_ix ix_tup (pv 0) pe_int (fun _ _ => rfl)) pa_nil)) (pa_cons pe_int (pa_cons pe_int pa_nil)))) pa_nil)))
      (pss_cons (ps_for PassesOwn.never rfl (pi_tup (pe_ix ix_tup (pv 0) pe_int (fun _ _ => rfl))) (pg_name (i := 4) scLN.nd rfl (Or.inl rfl))
        (pss_cons (ps_expr (pe_bm PySem.F.plainAttrs_list PySem.F.slot_list_append PySem.F.type_list_append mt_append (pv 1)
          (pa_cons (pe_tup (pa_cons (pe_callB call_len_seq (by rfl) T.len PySem.boot_len (pa_cons (pv 4) pa_nil)) (pa_cons pe_int (pa_cons pe_int pa_nil)))) pa_nil)))
        (pss_one (ps_for PassesOwn.never rfl (pi_tup (pv 4)) (pg_name (i := 5) scLN.nd rfl (Or.inl rfl))
          (pss_one (ps_set (i := 1) scLN.nd rfl (Or.inl rfl) (pe_op op_cat (pv 1) (pe_lst (pa_cons (pe_tup (pa_cons
              (pe_bm PySem.F.plainAttrs_list PySem.F.slot_list_index PySem.F.type_list_index mt_index (pe_call0 GC hr rfl DC.m DC.F.kp DC.b .nil pass0) (pa_cons (pe_ix ix_tup (pv 5) pe_int (fun _ _ => rfl)) pa_nil)) (pa_cons pe_int (pa_cons pe_int pa_nil))))
            (pa_cons (pe_tup (pa_cons (pe_ix ix_tup (pv 5) pe_int (fun _ _ => rfl)) (pa_cons pe_int (pa_cons pe_int pa_nil)))) pa_nil))))))))))
      (pss_one (ps_ret (pv 1)))))), ?_⟩
    obtain ⟨p, xs, rfl, hp, ha⟩ := dp_tupI hv
    cases ha with
    | @cons x0 _ _ _ h0 ha =>
      cases ha with
      | @cons x1 _ _ _ h1 ha =>
        cases ha with
        | @cons x2 _ _ _ h2 ha =>
          cases ha
          obtain ⟨s0, xs, rfl, sS, dS⟩ := dp_tupI h0
          obtain ⟨m0, ms, rfl, sM, dM⟩ := dp_tupI h1
          obtain ⟨r0, rs, rfl, sR, dR⟩ := dp_tupI h2
          have exs : xs = g.sizes.map V.int := of_ints dS
          subst exs
          have lS : (g.sizes.map V.int).length = g.sizes.length := List.length_map _
          have lM : ms.length = g.moves.length := by rw [dM.len, List.length_map]
          have lR : rs.length = g.rounds.length := by rw [dR.len, List.length_map]
          have Gs := G.sl
          have Gm := G.ml
          have Gr := G.rl
          have b3 : 3 ≤ sizeLine := by decide
          -- [(len(row[0]), 0, 12)]
          refine ⟨_, rfl, p, _, _, _, rfl, rfl, hp, at_of (j := 0) rfl rfl, s0, _, rfl, .inr sS, b3, fun t1 n1 => ⟨by show 1 ≤ sizeLine; decide, fun L1 nL1 => ?_⟩⟩
          rw [lS] at nL1 ⊢
          have N1 : NumL K H (upd (upd H t1 (.tup [.int g.sizes.length, .int 0, .int 12])) L1 (.lst [.ref t1])) L1 [((g.sizes.length : Int), 0, 12)] := NumL.make (same_upd n1) nL1 (.one row_new)
          have hL1 : (upd (upd H t1 (.tup [.int g.sizes.length, .int 0, .int 12])) L1 (.lst [.ref t1])) L1 = some (.lst [.ref t1]) := upd_same
          generalize upd (upd H t1 (.tup [.int g.sizes.length, .int 0, .int 12])) L1 (.lst [.ref t1]) = H1 at N1 hL1
          -- [(size, 1, 65535) for size in row[0]]
          refine ⟨_, rfl, p, _, _, _, rfl, rfl, hp.kp (.of N1.same), at_of (j := 0) rfl rfl, s0, rfl, ⟨_, sS.kp (.of N1.same)⟩, fun D hD => ?_⟩
          refine lc_tup (K := K) (a := s0) (xs := g.sizes.map V.int) (fun i H' => NumL K H1 H' D ((g.sizes.take i).map fun s => (s, 1, 65535))) (NumL.make (fun _ _ e => e) hD .nil)
            (fun i H' _ q => sS.kp (.of (N1.same.trans q.same))) ?_ ?_
          · rintro i x H' hx q
            obtain ⟨y, hy, rfl⟩ := map_at hx
            obtain ⟨vs, hD', hvl, _⟩ := q.ex
            refine ⟨rfl, _, rfl, b3, fun t n => ?_⟩
            have tD := ne_of_some hD' n
            have hl : vs.length ≤ i := by
              rw [hvl, List.length_map, List.length_take]
              omega
            have hil := (List.getElem?_eq_some_iff.mp hy).1
            refine ⟨vs, by rw [upd_ne (Ne.symm tD)]; exact hD', lt_line (by omega), ?_⟩
            have z := q.app hD' (same_upd n) (row_off (a := y) (b := 1) (c := 65535) tD)
            rw [List.take_succ, hy, List.map_append]
            exact z
          rintro H2 q2
          rw [lS, List.take_length] at q2
          obtain ⟨vs2, hD2, hl2, _⟩ := q2.ex
          rw [List.length_map] at hl2
          refine ⟨L1, D, _, vs2, rfl, rfl, q2.same _ _ hL1, hD2, by show 1 + vs2.length ≤ sizeLine; exact Nat.le_of_lt (lt_line (by omega)), fun A1 nA1 => ?_⟩
          have N2 := N1.cat hL1 q2.same (q2.all hD2).2 nA1
          have hA1 : (upd H2 A1 (.lst ([.ref t1] ++ vs2))) A1 = some (.lst ([.ref t1] ++ vs2)) := upd_same
          generalize upd H2 A1 (.lst ([.ref t1] ++ vs2)) = H3 at N2 hA1
          -- [(len(row[1]), 0, 24)]
          refine ⟨_, rfl, p, _, _, _, rfl, rfl, hp.kp (.of N2.same), at_of (j := 1) rfl rfl, m0, _, rfl, .inr (sM.kp (.of N2.same)), b3, fun t2 n2 => ⟨by show 1 ≤ sizeLine; decide, fun L2 nL2 => ?_⟩⟩
          rw [lM] at nL2 ⊢
          have s3 : Same H3 (upd (upd H3 t2 (.tup [.int g.moves.length, .int 0, .int 24])) L2 (.lst [.ref t2])) := (same_upd n2).trans (same_upd nL2)
          refine ⟨A1, L2, _, _, rfl, rfl, s3 _ _ hA1, upd_same, by show (vs2.length + 1) + 1 ≤ sizeLine; exact Nat.le_of_lt (lt_line (by omega)), fun D0 nD0 => ?_⟩
          have N3 : NumL K H _ D0 (sizeRows g.sizes ++ [((g.moves.length : Int), 0, 24)]) := N2.cat hA1 s3 (DpAll.one (row_new.kp (.of (same_upd nL2)))) nD0
          generalize upd (upd (upd H3 t2 (.tup [.int g.moves.length, .int 0, .int 24])) L2 (.lst [.ref t2])) D0 (.lst ([.ref t1] ++ vs2 ++ [.ref t2])) = H4 at N3
          -- for _law_move in row[1]
          refine ⟨_, rfl, p, _, _, _, rfl, rfl, hp.kp (.of N3.same), at_of (j := 1) rfl rfl, m0, rfl, ⟨_, sM.kp (.of N3.same)⟩, for_tup (K := K) (a := m0) (xs := ms) (fun i σ H' => ∃ (D : Addr) (l : List Row), NumL K H H' D l ∧ l = sizeRows g.sizes ++ ((g.moves.length : Int), 0, 24) :: (g.moves.take i).flatMap gM ∧ l.length ≤ 14 + 2 * i ∧
            ∃ v3 : Option V, σ = [some (.ref p), some (.ref D), none, v3, none, none]) ⟨D0, _, N3, rfl, ?_, _, rfl⟩ (fun i σ H' _ q => ?_) ?_ ?_⟩
          · rw [List.length_append]
            show (List.length (((g.sizes.length : Int), (0 : Int), (12 : Int)) :: g.sizes.map fun s => (s, 1, 65535))) + 1 ≤ 14
            rw [List.length_cons, List.length_map]
            omega
          · obtain ⟨D, l, q, _⟩ := q
            exact sM.kp (.of q.same)
          · rintro i x σ H' hxi ⟨D, l, q, el, hl, v3, rfl⟩
            obtain ⟨d, hd, hdx⟩ := dM.get hxi
            obtain ⟨mv, hmv, rfl⟩ := map_at hd
            obtain ⟨c, rfl, hc⟩ := dp_pairI hdx
            have hc' := hc.kp (.of q.same)
            have hil := (List.getElem?_eq_some_iff.mp hmv).1
            obtain ⟨vs, hD', hvl, _⟩ := q.ex
            refine ⟨_, rfl, _, rfl, c, _, _, _, rfl, rfl, hc', at_of (j := 0) rfl rfl, b3, fun u1 nu1 => ⟨_, rfl, c, _, _, _, rfl, rfl, hc'.kp (.of (same_upd nu1)), at_of (j := 1) rfl rfl, b3, fun u2 nu2 => ⟨by show 2 ≤ sizeLine; decide, fun L nL => ?_⟩⟩⟩
            have st : Same H' (upd (upd (upd H' u1 (.tup [.int mv.1, .int 1, .int 2])) u2 (.tup [.int mv.2, .int 1, .int 8])) L (.lst [.ref u1, .ref u2])) := ((same_upd nu1).trans (same_upd nu2)).trans (same_upd nL)
            refine ⟨D, L, vs, _, rfl, rfl, st _ _ hD', upd_same, by show vs.length + 2 ≤ sizeLine; exact Nat.le_of_lt (lt_line (by omega)), fun D2 nD2 => ?_⟩
            have N4 := q.cat (l2 := gM mv) hD' st (.cons (row_new.kp (.of ((same_upd nu2).trans (same_upd nL)))) (.one (row_new.kp (.of (same_upd nL))))) nD2
            refine ⟨D2, _, N4, ?_, ?_, _, rfl⟩
            · rw [el, flat_succ hmv, List.append_assoc]
              rfl
            · rw [List.length_append]
              show l.length + 2 ≤ _
              omega
          · rintro σ H5 ⟨D, l, q, el, hl, v3, rfl⟩
            rw [lM, List.take_length] at el
            have el : l = sizeRows g.sizes ++ moveRows g.moves := el
            obtain ⟨vs, hD', hvl, _⟩ := q.ex
            -- numbers.append((len(row[2]), 0, 8))
            refine ⟨_, rfl, .inl ⟨rfl, _, SqL.of hD'⟩, _, rfl, p, _, _, _, rfl, rfl, hp.kp (.of q.same), at_of (j := 2) rfl rfl, r0, _, rfl, .inr (sR.kp (.of q.same)), b3, fun t nt => ?_⟩
            have tD := ne_of_some hD' nt
            refine ⟨D, vs, _, rfl, rfl, by rw [upd_ne (Ne.symm tD)]; exact hD', lt_line (by omega), ?_⟩
            rw [lR]
            have N5 := q.app hD' (same_upd nt) (row_off (a := g.rounds.length) (b := 0) (c := 8) tD)
            generalize upd (upd H5 t (.tup [.int g.rounds.length, .int 0, .int 8])) D (.lst (vs ++ [.ref t])) = H6 at N5
            refine ⟨_, rfl, p, _, _, _, rfl, rfl, hp.kp (.of N5.same), at_of (j := 2) rfl rfl, r0, rfl, ⟨_, sR.kp (.of N5.same)⟩, for_tup (K := K) (a := r0) (xs := rs) (fun i σ H' => ∃ (D : Addr) (m : List Row), NumL K H H' D m ∧ m = l ++ ((g.rounds.length : Int), 0, 8) :: (g.rounds.take i).flatMap codeRows ∧ m.length ≤ 63 + 21 * i ∧
              ∃ v3 v4 v5 : Option V, σ = [some (.ref p), some (.ref D), none, v3, v4, v5]) ⟨D, _, N5, rfl, ?_, _, _, _, rfl⟩ (fun i σ H' _ q => ?_) ?_ ?_⟩
            · rw [List.length_append]
              show l.length + 1 ≤ _
              omega
            · obtain ⟨D, l, q, _⟩ := q
              exact sR.kp (.of q.same)
            · rintro i x σ H' hxi ⟨D, m, q, em, hml, v3, v4, v5, rfl⟩
              obtain ⟨d, hd, hdx⟩ := dR.get hxi
              obtain ⟨c, hc, rfl⟩ := map_at hd
              obtain ⟨e, cs, rfl, sC, dC⟩ := dp_tupI hdx
              have hil := (List.getElem?_eq_some_iff.mp hc).1
              have Gc := G.r c (List.mem_of_getElem? hc)
              have lC : cs.length = c.length := by rw [dC.len, List.length_map]
              obtain ⟨vs, hD', hvl, _⟩ := q.ex
              refine ⟨_, rfl, .inl ⟨rfl, _, SqL.of hD'⟩, _, rfl, e, cs, rfl, .inr (sC.kp (.of q.same)), b3, fun t nt => ?_⟩
              have tD := ne_of_some hD' nt
              refine ⟨D, vs, _, rfl, rfl, by rw [upd_ne (Ne.symm tD)]; exact hD', lt_line (by omega), ?_⟩
              rw [lC]
              have N6 := q.app hD' (same_upd nt) (row_off (a := c.length) (b := 0) (c := 65535) tD)
              generalize upd (upd H' t (.tup [.int c.length, .int 0, .int 65535])) D (.lst (vs ++ [.ref t])) = H7 at N6
              refine ⟨_, rfl, e, rfl, ⟨_, sC.kp (.of N6.same)⟩, for_tup (K := K) (a := e) (xs := cs) (fun j σ H' => ∃ (D : Addr) (n : List Row), NumL K H H' D n ∧ n = m ++ ((c.length : Int), 0, 65535) :: (c.take j).flatMap gI ∧ n.length ≤ 64 + 21 * i + 2 * j ∧
                ∃ v3 v5 : Option V, σ = [some (.ref p), some (.ref D), none, v3, some (.ref e), v5]) ⟨D, _, N6, rfl, ?_, _, _, rfl⟩ (fun i σ H' _ q => ?_) ?_ ?_⟩
              · rw [List.length_append]
                show m.length + 1 ≤ _
                omega
              · obtain ⟨D, l, q, _⟩ := q
                exact sC.kp (.of q.same)
              · rintro j y σ H' hyj ⟨D, n, q, en, hnl, v3, v5, rfl⟩
                obtain ⟨d, hd, hdy⟩ := dC.get hyj
                obtain ⟨x, hx, rfl⟩ := map_at hd
                obtain ⟨o, rfl, ho⟩ := dp_instrI hdy
                have hjl := (List.getElem?_eq_some_iff.mp hx).1
                have Gx := Gc.2 x (List.mem_of_getElem? hx)
                obtain ⟨vs, hD', hvl, _⟩ := q.ex
                refine ⟨_, rfl, rfl, fun nl Hn sn hnl' hnames => ?_⟩
                have ho' := ho.kp (.of (q.same.trans sn))
                refine ⟨.inl ⟨rfl, _, SqL.of hnames⟩, _, rfl, o, _, _, _, rfl, rfl, ho', at_of (j := 0) rfl rfl, nl, _, _, x.1, _, rfl, rfl, SqL.of hnames, rfl, flat_names, nm_at Gx.1, eq_nm Gx.1, fun m z hm hz => nq_nm Gx.1 hm hz, b3, fun u1 nu1 => ?_⟩
                refine ⟨_, rfl, o, _, _, _, rfl, rfl, ho'.kp (.of (same_upd nu1)), at_of (j := 1) rfl rfl, b3, fun u2 nu2 => ⟨by show 2 ≤ sizeLine; decide, fun L nL => ?_⟩⟩
                have st : Same H' (upd (upd (upd Hn u1 (.tup [.int (x.1 : Nat), .int 0, .int 15])) u2 (.tup [.int x.2, .int 0, .int 65535])) L (.lst [.ref u1, .ref u2])) := ((sn.trans (same_upd nu1)).trans (same_upd nu2)).trans (same_upd nL)
                refine ⟨D, L, vs, _, rfl, rfl, st _ _ hD', upd_same, by show vs.length + 2 ≤ sizeLine; exact Nat.le_of_lt (lt_line (by omega)), fun D2 nD2 => ?_⟩
                have N7 := q.cat (l2 := gI x) hD' st (.cons (row_new.kp (.of ((same_upd nu2).trans (same_upd nL)))) (.one (row_new.kp (.of (same_upd nL))))) nD2
                refine ⟨D2, _, N7, ?_, ?_, _, _, rfl⟩
                · rw [en, flat_succ hx, List.append_assoc]
                  rfl
                · rw [List.length_append]
                  show n.length + 2 ≤ _
                  omega
              · rintro σ H' ⟨D, n, q, en, hnl, v3, v5, rfl⟩
                rw [lC, List.take_length] at en
                refine ⟨D, n, q, ?_, by omega, _, _, _, rfl⟩
                rw [flat_succ hc, en, em, List.append_assoc]
                rfl
            · rintro σ H' ⟨D, m, q, em, hml, v3, v4, v5, rfl⟩
              rw [lR, List.take_length] at em
              obtain ⟨vs, hD', hvl, _⟩ := q.ex
              have er : m = rows g := by
                rw [em, el, List.append_assoc]
                rfl
              subst er
              exact ⟨_, rfl, k D H' q.same q.new (.lst (SqL.of hD') (q.all hD').2)⟩
end
end K79
/-! _law_read: a caught BadCode. -/
namespace L2
open PySem PySem.Spec PyProof.Rows
/-- isinstance(e, c), e the error that the suite holds, with one field -/
def rIsBad (K : PySem.W.Frag) (D a : Addr) (cls : Value) (d : Option Addr) : List V → Hp → VK → Prop := fun xs H Q => cls = .ref D ∧ ∃ (dd : Addr) (v : V) (c : V) (cv : Value) (b : Bool), d = some dd ∧ H dd = some (.xd [(("at" : Str), v)]) ∧ xs = [.ref a, c] ∧ (∀ u, RelV c u → u = cv) ∧
  PySem.W.kitOne K (.ref D) cv = some b ∧ Q (.bl b) H
theorem at_one (v : V) : List.lookup ("at" : Str) [(("at" : Str), v)] = some v := by simp [List.lookup]
theorem two_vals {x c : V} {us : List Value} (r : Vals [x, c] us) : ∃ u w, us = [u, w] ∧ RelV x u ∧ RelV c w := by
  rcases r with _ | ⟨ru, _ | ⟨rw, _ | _⟩⟩
  exact ⟨_, _, rfl, ru, rw⟩
theorem call_isBad {X : Cx} {a D : Addr} {oe : Obj} {cls : Value} {d : Option Addr} {pn : List (Addr × Obj)} (C : ExcC X.K D) (hc : PySem.W.isClsIn X.K D = true) (hz : Zc cls d oe) (hf : ∃ vs, oe.data = .fields vs) :
    CallR (X.suite a ((a, oe) :: pn)) (.builtin "isinstance") (rIsBad X.K D a cls d) := fun pins s σ H xs us Q I r h => by
  obtain ⟨rfl, dd, v, c, cv, b, rfl, ea, rfl, hcv, ek, q⟩ := h
  obtain ⟨u, w, rfl, hu, hw⟩ := two_vals r
  obtain rfl : u = Value.ref a := hu
  obtain rfl : w = cv := hcv w hw
  have there : s.heap.get? a = some oe := (I.pin (a, oe) (List.mem_append_left _ List.mem_cons_self)).1
  obtain ⟨_, dns, _⟩ : ObjOk X.prog X.w H s.heap dd (.xd [(("at" : Str), v)]) := I.hok dd _ ea
  obtain ⟨od, hod, _⟩ := lookIn_ns dns
  have plain : PySem.W.notCls oe := by
    obtain ⟨fs, e⟩ := hf
    unfold PySem.W.notCls
    rw [e]
  have J : PySem.W.InstAt s.heap a oe D (some od) := ⟨there, hz.1, plain, by rw [hz.2]; exact hod⟩
  have Z := PySem.W.kitx_exc (x := a) (ox := oe) (od := some od) hc C.hg C.hk C.hs C.ha C.hn C.ht C.hm
  exact PySem.W.kia_one Z I.kIn J ek (fun z => nomatch z) fun tk => ⟨.bl b, H, I.kept (t' := tk) fun _ _ z => z, rfl, q⟩
end L2
namespace K79
open PySem L2
section
variable {P : Program} {w : World} {K : PySem.W.Frag} {mg : Str → Option Value} {base : Heap} {C CN CB CG fJ aN : Addr}
abbrev nLR : List Str := ["_law_numbers_here", "_law_passed", "_law_program", "e"]
theorem scLR : FnScope nLR ["_law_numbers_here"] (defScope sLR) := ⟨rfl, rfl, rfl, by decide +kernel, rfl, by decide +kernel, by decide +kernel⟩
abbrev rEqD (K : PySem.W.Frag) : R2 := fun x y H Q => ∃ a b : PyData, Dp K H x a ∧ Dp K H y b ∧ SeqAt.shaped a = true ∧ SeqAt.shaped b = true ∧ Q (.bl (PyData.eqv a b)) H
theorem ok_LR {f fR fP fE fN fT fK : Addr} {fd fdR fdP fdE fdN fdT fdK : FuncData} (F : Fun K "_law_read" "_law_read" sLR f fd) (M : NumC K CN fN fT fK fdN fdT fdK) (MP : ProC K C fP fE fdP fdE) (T : Txt P K mg C CN CB CG fJ aN)
    (DR : Gd K mg "read_program" sRP fR fdR ["numbers"]) (IC : ExcC K CB) (hB : PySem.W.isClsIn K CB = true) (kG : PySem.W.kitOne K (.ref CB) (.ref CG) = some true) : FnOk P w K mg base CX0 4 f fd ["_law_numbers_here"] (spLR K) := by
  have GR : FnOk P w K mg base (L2.CX P w) 3 fR fdR ["numbers"] (spRP K C CB) := ok_RP DR.F M MP T
  refine F.ok scLR (fun vs H Q E h => ?_) (fun cdv A outer s H vs Q E hr h => ?_)
  · obtain ⟨a, ns, rfl, _⟩ := h
    rfl
  · obtain ⟨a, ns, rfl, hS, kO, kE⟩ := h
    refine ⟨_, pss_cons (ps_set (i := 1) scLR.nd rfl (Or.inl rfl) (pe_callTy call_list_of (by rfl) T.list (by decide +kernel) (pa_cons (pv 0) pa_nil)))
      (pss_one (ps_try_as (i := 3) (tb := fun W => tSeq (tAsg (tCallS (spRP K C CB) (WE W) (tCons (tVar 1) tNil)) (gName 2)) (tRet (tTup (tCons (tC (.str "read")) (tCons (tLst (tCons (tFld K (tVar 2) "sizes") (tCons (tFld K (tVar 2) "moves") (tCons (tFld K (tVar 2) "rounds") tNil))))
            (tCons (tOp (rEqD K) (tVar 1) (tVar 0)) tNil))))))
          (ts := fun a cls d => tRet (tTup (tCons (tC (.str "refused")) (tCons (tXf a cls d CB "at" (tVar 3)) (tCons (tCB (rIsBad K CB a cls d) (tCons (tVar 3) (tCons (tC (.ref CG)) tNil))) tNil)))))
          (Wout := fun _ _ _ _ => False) rfl rfl scLR.nd rfl rfl ⟨rfl, by decide, Or.inl T.bad.gC⟩ takes0
        (fun W pn xe tk _ => pss_cons (ps_set (i := 2) scLR.nd rfl (Or.inl rfl) (by exact (pe_callS GR hr rfl DR.m DR.F.kp DR.b (fun σ => passAt tk σ) (by exact (pa_cons (pv 1) pa_nil)))))
          (pss_one (ps_ret (pe_tup (pa_cons pe_str (pa_cons (pe_lst (pa_cons (pe_fld (pv 2) rfl) (pa_cons (pe_fld (pv 2) rfl) (pa_cons (pe_fld (pv 2) rfl) pa_nil))))
            (pa_cons (pe_cmpR (op_eqD hr.units) (pv 1) (pv 0) (nomark _)) pa_nil)))))))
        (fun a oe cls d pn hz hf => pss_one (ps_ret (pe_tup (pa_cons pe_str (pa_cons (pe_xf ⟨T.bad.ga, T.bad.gg, T.bad.exC, T.bad.hdC⟩ T.bad.noN hz hf (pv 3)) (pa_cons (pe_callB (call_isBad IC hB hz hf) (by rfl) T.isinstance (by decide +kernel) (pa_cons (pv 3) (pa_cons (pe_glob (v := .ref CG) rfl T.mgG rfl) pa_nil))) pa_nil)))))))), ?_⟩
    refine ⟨_, rfl, a, _, rfl, .inl (SqL.of hS), fun l hl => ?_⟩
    have s1 : Same H (upd H l (.lst (ns.map V.int))) := same_upd hl
    have hl1 : (upd H l (.lst (ns.map V.int))) l = some (.lst (ns.map V.int)) := upd_same
    generalize upd H l (.lst (ns.map V.int)) = H1 at s1 hl1
    refine ⟨_, rfl, l, ns, rfl, SqL.of hl1, fun g hg x H' s' hp => ?_, fun j hj d H' s' hx => ?_⟩
    · obtain ⟨q, dx, f1, f2, f3, rfl, hq, hs, hm, hr⟩ := hp.ex
      refine ⟨_, rfl, q, C, dx, _, _, rfl, hq, T.clC, T.nSi, pf_s _ _ _, _, rfl, q, C, dx, _, _, rfl, hq, T.clC, T.nMo, pf_m _ _ _, _, rfl, q, C, dx, _, _, rfl, hq, T.clC, T.nRo, pf_r _ _ _, by show 3 ≤ sizeLine; decide, fun t ht => ?_⟩
      have s2 := same_upd (o := .lst [.ref f1, .ref f2, .ref f3]) ht
      refine ⟨_, rfl, _, rfl, .list (ns.map PyData.int), .list (ns.map PyData.int), .lst (SqL.of (s2 _ _ (s' _ _ hl1))) (dp_ints _), .lst (SqL.of (s2 _ _ (s' _ _ (s1 _ _ hS)))) (dp_ints _), sh_ints _, sh_ints _, ?_⟩
      rw [eqv_self (sh_ints ns)]
      refine ⟨by show 3 ≤ sizeLine; decide, fun u hu => ?_⟩
      have s3 := same_upd (o := .tup [.str "read", .ref t, .bl true]) hu
      refine kO g hg _ _ (s1.trans (s'.trans (s2.trans s3))) (.tup (SqT.of upd_same) (.cons (.str _) (.cons (.lst (SqL.of (s3 _ _ upd_same)) ?_) (.cons (.bl _) .nil))))
      exact .cons (hs.kp (.of (s2.trans s3))) (.cons (hm.kp (.of (s2.trans s3))) (.cons (hr.kp (.of (s2.trans s3))) .nil))
    · refine ⟨true, T.bad.te, fun _ ea hea => ?_, fun q => Bool.noConfusion q⟩
      refine ⟨_, rfl, rfl, rfl, d, _, _, rfl, hx, at_one _, _, rfl, rfl, d, _, _, _, true, rfl, hx, rfl, fun u hu => hu, kG, by show 3 ≤ sizeLine; decide, fun u hu => ?_⟩
      exact kE j hj _ _ (s1.trans (s'.trans (same_upd hu))) (.tup (SqT.of upd_same) (.cons (.str _) (.cons (.int _) (.cons (.bl _) .nil))))
end
end K79
/-! law: what stands between its statements. -/
namespace K79
open PySem L2
section
variable {K : PySem.W.Frag} {H H' H1 : Hp}
/-! ### depths -/
theorem dep_mono : ∀ {n : Nat} {d : PyData}, Dep n d → Dep (n + 1) d
  | 0, d, h => dep_atom h
  | n + 1, d, h => by
    rcases dep_succ h with h | ⟨ds, e, hl, hd⟩
    · exact dep_atom h
    · rw [Dep]
      exact .inr ⟨ds, e, hl, fun x hx => dep_mono (hd x hx)⟩
theorem dep_ints {n : Nat} {l : List Int} : ∀ x ∈ l.map PyData.int, Dep n x := fun x hx => by
  obtain ⟨y, _, rfl⟩ := List.mem_map.mp hx
  exact dep_int n y
theorem dep_two {n : Nat} {a b : PyData} (ha : Dep n a) (hb : Dep n b) : Dep (n + 1) (.tuple [a, b]) := dep_tup (by show 2 ≤ 1000; decide) fun x hx => by
  simp only [List.mem_cons, List.not_mem_nil, or_false] at hx
  rcases hx with rfl | rfl
  · exact ha
  · exact hb
theorem mem3 {a b c x : PyData} {p : PyData → Prop} (ha : p a) (hb : p b) (hc : p c) (hx : x ∈ [a, b, c]) : p x := by
  simp only [List.mem_cons, List.not_mem_nil, or_false] at hx
  rcases hx with rfl | rfl | rfl
  · exact ha
  · exact hb
  · exact hc
abbrev dList (g : Game) : PyData := .list [dSizes g.sizes, dMoves g.moves, dRounds g.rounds]
abbrev dRead (g : Game) : PyData := .tuple [.str "read", dList g, .bool true]
abbrev dRef (j : Int) : PyData := .tuple [.str "refused", .int j, .bool true]
theorem dep_row {g : Game} (G : Good g) : Dep 4 (dList g) := by
  have h1 := G.sl
  have h2 := G.ml
  have h3 := G.rl
  refine dep_list (by show 3 ≤ 1000; decide) fun x hx => mem3 (p := Dep 3) ?_ ?_ ?_ hx
  · exact dep_tup (by rw [List.length_map]; omega) dep_ints
  · refine dep_tup (by rw [List.length_map]; omega) fun x hx => ?_
    obtain ⟨m, _, rfl⟩ := List.mem_map.mp hx
    exact dep_two (dep_int _ _) (dep_int _ _)
  · refine dep_tup (by rw [List.length_map]; omega) fun x hx => ?_
    obtain ⟨c, hc, rfl⟩ := List.mem_map.mp hx
    have h4 := (G.r c hc).1
    refine dep_tup (by rw [List.length_map]; omega) fun y hy => ?_
    obtain ⟨z, _, rfl⟩ := List.mem_map.mp hy
    exact dep_two (dep_str _ _) (dep_int _ _)
theorem dep_read {g : Game} (G : Good g) : Dep 5 (dRead g) := dep_tup (by show 3 ≤ 1000; decide) fun x hx => mem3 (p := Dep 4) (dep_str _ _) (dep_row G) (dep_bl _ _) hx
theorem dep_ref (j : Int) : Dep 5 (dRef j) := dep_tup (by show 3 ≤ 1000; decide) fun x hx => mem3 (p := Dep 4) (dep_str _ _) (dep_int _ _) (dep_bl _ _) hx
theorem nums_le {g : Game} (G : Good g) : (nums g).length ≤ 300 := by
  rw [nums_len]
  exact rows_len G
theorem nums_pos (g : Game) : 0 < (nums g).length := by
  rw [nums_len]
  exact rows_pos g
theorem dep_nums {g : Game} (G : Good g) : Dep 5 (.list ((nums g).map PyData.int)) := dep_list (by rw [List.length_map]; have := nums_le G; omega) dep_ints
/-! ### slices -/
theorem cut_take (l : List Int) {k : Nat} (h : k ≤ l.length) : cutV (l.map V.int) none (some (k : Int)) = (l.take k).map V.int := by
  unfold cutV
  rw [HT.sIx_none, HT.sIx_nat, List.drop_zero, Nat.sub_zero, List.length_map, Nat.min_eq_left h, List.map_take]
theorem cut_drop (l : List Int) {k : Nat} (h : k ≤ l.length) : cutV (l.map V.int) (some (k : Int)) none = (l.drop k).map V.int := by
  unfold cutV
  rw [HT.sIx_none, HT.sIx_nat, List.length_map, Nat.min_eq_left h, List.map_drop]
  refine List.take_of_length_le ?_
  rw [List.length_drop, List.length_map]
  exact Nat.le_refl _
/-! ### the rows beside the pool -/
theorem dp_numI {v : V} {r : Row} (h : Dp K H v (dNum r)) : ∃ p, v = .ref p ∧ SqT K H p [.int r.1, .int r.2.1, .int r.2.2] := by
  obtain ⟨p, xs, rfl, hs, ha⟩ := dp_tupI h
  cases ha with
  | cons h1 t =>
    cases t with
    | cons h2 t2 =>
      cases t2 with
      | cons h3 t3 =>
        cases t3
        cases h1
        cases h2
        cases h3
        exact ⟨p, rfl, hs⟩
theorem sqt_off {a p : Addr} {L xs : List V} (ha : H a = some (.lst L)) (h : SqT K H p xs) : SqT K (off a H) p xs := by
  rcases h with (h | ⟨o, h⟩) | h
  · exact .inl (.inl (off_at h fun z => by rw [z, ha] at h; cases h))
  · exact .inl (.inr ⟨o, off_at h fun z => by rw [z, ha] at h; cases h⟩)
  · exact .inr h
theorem sql_off {a p : Addr} {xs : List V} (n : p ≠ a) (h : SqL K H p xs) : SqL K (off a H) p xs := by
  rcases h with (h | ⟨o, h⟩) | h
  · exact .inl (.inl (off_at h n))
  · exact .inl (.inr ⟨o, off_at h n⟩)
  · exact .inr h
theorem nums_off {a : Addr} {L : List V} (ha : H a = some (.lst L)) : ∀ {l : List Row} {vs : List V}, DpAll K H vs (l.map dNum) → DpAll K (off a H) vs (l.map dNum)
  | [], _, h => by
    cases h
    exact .nil
  | r :: l, _, h => by
    cases h with
    | cons h1 t =>
      obtain ⟨p, rfl, hp⟩ := dp_numI h1
      exact .cons (.tup (sqt_off ha hp) (.cons (.int _) (.cons (.int _) (.cons (.int _) .nil)))) (nums_off ha t)
theorem rows_off {a p : Addr} {L : List V} {l : List Row} (ha : H a = some (.lst L)) (n : p ≠ a) (h : Dp K H (.ref p) (dRows l)) : Dp K (off a H) (.ref p) (dRows l) := by
  obtain ⟨q, xs, e, hs, hd⟩ := dp_listI h
  cases e
  exact .lst (sql_off n hs) (nums_off ha hd)
/-- the pool, the numbers, the rows -/
structure St (K : PySem.W.Frag) (H : Hp) (p c N L : Addr) (g : Game) : Prop where
  pool : Pool H p c
  num : H N = some (.lst ((nums g).map V.int))
  ne : N ≠ p
  rws : Dp K (off p H) (.ref L) (dRows (rows g))
theorem St.same {p c N L : Addr} {g : Game} (h : St K H p c N L g) (s : Same H H') : St K H' p c N L g := ⟨h.pool.same s, s _ _ h.num, h.ne, h.rws.kp (.of (same_off s))⟩
theorem St.draw {p c N L : Addr} {g : Game} (h : St K H p c N L g) (s : Fm p H H') (hp : Pool H' p c) : St K H' p c N L g := ⟨hp, s _ _ h.num h.ne, h.ne, h.rws.kp (.of s.off)⟩
theorem pool_lst {p c : Addr} (h : Pool H p c) : ∃ L, H p = some (.lst L) := by
  obtain ⟨ns, a, b, m, k, u, h1, _⟩ := h
  exact ⟨_, h1⟩
/-- a list D has grown since H: the rest is as it was, and beside D -/
theorem FmS.off1 {D : Addr} (x : FmS [D] H H') (n : H D = none) : Same H (K79.off D H') := fun b o e => off_at (x b o e (not1 (ne_of_none e n))) (ne_of_none e n)
/-- the wrong number that the draw v names -/
theorem wrong_at {r : Row} (h : 0 ≤ r.2.1 ∧ r.2.2 ≤ 65535 ∧ r.2.1 ≤ r.2.2 ∧ 0 ≤ r.1 ∧ r.1 ≤ 65535) {v : Int} (v0 : 0 ≤ v) (v1 : v < 4) :
    ∃ w : Int, atI [V.int (r.2.1 - 1), V.int (r.2.2 + 1), V.int 65536, V.int (-1)] v = some (.int w) ∧ ¬ (r.2.1 ≤ w ∧ w ≤ r.2.2) := by
  obtain ⟨h1, h2, h3, _⟩ := h
  have c : v = 0 ∨ v = 1 ∨ v = 2 ∨ v = 3 := by omega
  rcases c with rfl | rfl | rfl | rfl
  · exact ⟨_, at_of (j := 0) rfl rfl, by omega⟩
  · exact ⟨_, at_of (j := 1) rfl rfl, by omega⟩
  · exact ⟨_, at_of (j := 2) rfl rfl, by omega⟩
  · exact ⟨_, at_of (j := 3) rfl rfl, by omega⟩
end
end K79
/-! law. -/
namespace K79
open PySem L2
section
variable {P : Program} {w : World} {K : PySem.W.Frag} {mg : Str → Option Value} {base : Heap} {C CN CB CG fJ aN : Addr}
abbrev nLaw : List Str := ["_law_script", "_law_pool_here", "_law_row_here", "_law_rows", "_law_numbers_here", "_law_made", "_law_size", "_law_place", "_law_wrong", "_law_spoilt_here", "_law_code"]
theorem scLaw : FnScope nLaw ["_law_script"] (defScope sLaw) := ⟨rfl, rfl, rfl, by decide +kernel, rfl, by decide +kernel, by decide +kernel⟩
abbrev rListOf (K : PySem.W.Frag) : List V → Hp → VK → Prop := fun xs H Q => ∃ p ys, xs = [.ref p] ∧ (SqL K H p ys ∨ SqT K H p ys) ∧ ∀ l, H l = none → Q (.ref l) (upd H l (.lst ys))
/-- all that law reaches, as the top has made it -/
structure All (P : Program) (K : PySem.W.Frag) (mg : Str → Option Value) (C CN CB CG fJ aN : Addr) (fP fE fN fT fK : Addr) (fdP fdE fdN fdT fdK : FuncData) : Prop where
  T : Txt P K mg C CN CB CG fJ aN
  M : NumC K CN fN fT fK fdN fdT fdK
  MP : ProC K C fP fE fdP fdE
  IC : ExcC K CB
  hB : PySem.W.isClsIn K CB = true
  kG : PySem.W.kitOne K (.ref CB) (.ref CG) = some true
structure Defs (K : PySem.W.Frag) (mg : Str → Option Value) (fO fW fL fS fD fF fU fC fR fQ fZ : Addr) (gO gW gL gS gD gF gU gC gR gQ gZ : FuncData) : Prop where
  O : Gd K mg "_law_pool" sPool fO gO ["_law_script", "_law_budget"]
  W : Gd K mg "_law_row" sRow fW gW ["_law_pool_here"]
  L : Gd K mg "_law_numbers" sLN fL gL ["_law_row_here"]
  S : Gd K mg "_law_same" sSame fS gS ["_law_actual", "_law_due"]
  D : Gd K mg "_law_draw" sDraw fD gD ["_law_pool_here", "_law_size"]
  F : Gd K mg "_law_few" sFew fF gF ["_law_pool_here", "_law_most"]
  U : Gd K mg "_law_number" sNum fU gU ["_law_pool_here"]
  C : Gd K mg "_law_names_of_code" sNoc fC gC []
  R : Gd K mg "read_program" sRP fR gR ["numbers"]
  Q : Gd K mg "program_numbers" sPN fQ gQ ["program"]
  Z : Gd K mg "_law_read" sLR fZ gZ ["_law_numbers_here"]
theorem ok_law {f fP fE fN fT fK fO fW fL fS fD fF fU fC fR fQ fZ : Addr} {fd fdP fdE fdN fdT fdK gO gW gL gS gD gF gU gC gR gQ gZ : FuncData} (F : Fun K "law" "law" sLaw f fd) (A : All P K mg C CN CB CG fJ aN fP fE fN fT fK fdP fdE fdN fdT fdK)
    (G : Defs K mg fO fW fL fS fD fF fU fC fR fQ fZ gO gW gL gS gD gF gU gC gR gQ gZ) : FnOk P w K mg base CX0 7 f fd ["_law_script"] (spLaw K) := by
  obtain ⟨T, M, MP, IC, hB, kG⟩ := A
  obtain ⟨O, W, L, S, D, FF, U, NC, R, PN, Z⟩ := G
  have GO : FnOk P w K mg base CX0 1 fO gO ["_law_script", "_law_budget"] (spPool K) := ok_pool O.F T
  have GD : FnOk P w K mg base CX0 1 fD gD ["_law_pool_here", "_law_size"] spDraw := ok_draw D.F T
  have GU : FnOk P w K mg base CX0 2 fU gU ["_law_pool_here"] spNum := ok_num U.F T D
  have GW : FnOk P w K mg base CX0 3 fW gW ["_law_pool_here"] (spRow K) := ok_row W.F T D FF U NC
  have GL : FnOk P w K mg base CX0 2 fL gL ["_law_row_here"] (spLN K) := ok_LN L.F T NC
  have GP : FnOk P w K mg base CX0 1 fP fdP ["self", "sizes", "moves", "rounds"] (spPI K C) := ok_PI MP.FP T
  have GE : FnOk P w K mg base CX0 1 fE fdE ["self", "other"] (spEq (rPE K C)) := ok_PE MP T
  have GR : FnOk P w K mg base (L2.CX P w) 3 fR gR ["numbers"] (spRP K C CB) := ok_RP R.F M MP T
  have GQ : FnOk P w K mg base CX0 1 fQ gQ ["program"] (spPN K C) := ok_PN PN.F T
  have GZ : FnOk P w K mg base CX0 4 fZ gZ ["_law_numbers_here"] (spLR K) := ok_LR Z.F M MP T R IC hB kG
  have GS : FnOk P w K mg base CX0 6 fS gS ["_law_actual", "_law_due"] (spSame K 5) := ok_same S T 5
  refine F.ok scLaw (fun vs H Q E h => ?_) (fun cdv A outer s H vs Q E hr h => ?_)
  · obtain ⟨a, ns, rfl, _⟩ := h
    rfl
  · obtain ⟨a, ns, rfl, hS, k⟩ := h
    have hr1 : Room 1 _ := hr.mono (by decide)
    have hr2 : Room 2 _ := hr.mono (by decide)
    have hr3 : Room 3 _ := hr.mono (by decide)
    have hr4 : Room 4 _ := hr.mono (by decide)
    refine ⟨_, pss_cons (ps_set (i := 1) scLaw.nd rfl (Or.inl rfl) (pe_call GO hr1 rfl O.m O.F.kp O.b .nil pass0 (pa_cons (pv 0) (pa_cons pe_int pa_nil))))
      (pss_cons (ps_set (i := 2) scLaw.nd rfl (Or.inl rfl) (pe_call GW hr3 rfl W.m W.F.kp W.b .nil pass0 (pa_cons (pv 1) pa_nil)))
      (pss_cons (ps_set (i := 3) scLaw.nd rfl (Or.inl rfl) (pe_call GL hr2 rfl L.m L.F.kp L.b .nil pass0 (pa_cons (pv 2) pa_nil)))
      (pss_cons (ps_setLc (i := 4) (own := [("_law_place", 7)]) (g := gName 7) (tt := tYes) rfl scLaw.nd rfl rfl (sw_true rfl rfl rfl (by decide +kernel))
          (pi_list (pv 3)) (blkOk_by (N := nLaw) (sc := defScope sLaw) (by decide +kernel)) (fun _ _ _ _ _ => pg_name (i := 7) scLaw.nd rfl (Or.inl rfl)) (fun _ _ _ _ _ => pts_nil)
          (fun _ _ _ _ _ => pe_ix (r := rIxT K) ix_tup (pv 7) pe_int (fun _ _ => rfl)))
      (pss_cons (ps_set (i := 5) scLaw.nd rfl (Or.inl rfl) (pe_make MP.made GP hr2 rfl T.mgC MP.bP .nil pass0
          (pa_cons (pe_callTy call_list_of (by rfl) T.list (by decide +kernel) (pa_cons (pe_ix ix_tup (pv 2) pe_int (fun _ _ => rfl)) pa_nil))
          (pa_cons (pe_callTy call_list_of (by rfl) T.list (by decide +kernel) (pa_cons (pe_ix ix_tup (pv 2) pe_int (fun _ _ => rfl)) pa_nil))
          (pa_cons (pe_lc (own := [("_law_code", 10)]) (g := gName 10) (tt := tYes) rfl scLaw.nd (pi_tup (pe_ix ix_tup (pv 2) pe_int (fun _ _ => rfl))) (blkOk_by (N := nLaw) (sc := defScope sLaw) (by decide +kernel))
            (fun _ _ _ _ _ => pg_name (i := 10) scLaw.nd rfl (Or.inl rfl)) (fun _ _ _ _ _ => pts_nil) (fun _ _ _ _ _ => pe_callTy (r := rListOf K) call_list_of (by rfl) T.list (by decide +kernel) (pa_cons (pv 10) pa_nil))) pa_nil)))))
      (pss_cons (ps_if (pt_not (pt_val (pe_call GS hr rfl S.m S.F.kp S.b .nil pass0 (pa_cons (pe_lst (pa_cons (pe_fld (pv 5) rfl) (pa_cons (pe_fld (pv 5) rfl) (pa_cons (pe_fld (pv 5) rfl) pa_nil))))
          (pa_cons (pe_callTy call_list_of (by rfl) T.list (by decide +kernel) (pa_cons (pv 2) pa_nil)) pa_nil))))) (pss_one (ps_ret pe_bl)) pss_nil)
      (pss_cons (ps_if (PW.pt (pw_or (pt_not (pt_val (pe_call GS hr rfl S.m S.F.kp S.b .nil pass0 (pa_cons (pe_call GQ hr1 rfl PN.m PN.F.kp PN.b .nil pass0 (pa_cons (pv 5) pa_nil)) (pa_cons (pv 4) pa_nil)))))
          (pw_or1 (pt_not (pt_val (pe_call GS hr rfl S.m S.F.kp S.b .nil pass0 (pa_cons (pe_cmpR (op_eqG (rcG_ins GE MP.eqF MP.eqI MP.bE pass0) hr1)
            (pe_call GR hr3 rfl R.m R.F.kp R.b .nil passL (pa_cons (pe_callTy call_list_of (by rfl) T.list (by decide +kernel) (pa_cons (pv 4) pa_nil)) pa_nil)) (pv 5) (nomark _)) (pa_cons pe_bl pa_nil)))))))) (pss_one (ps_ret pe_bl)) pss_nil)
      (pss_cons (ps_if (pt_not (pt_val (pe_call GS hr rfl S.m S.F.kp S.b .nil pass0 (pa_cons (pe_call GZ hr4 rfl Z.m Z.F.kp Z.b .nil pass0 (pa_cons (pv 4) pa_nil))
          (pa_cons (pe_tup (pa_cons pe_str (pa_cons (pe_callTy call_list_of (by rfl) T.list (by decide +kernel) (pa_cons (pv 2) pa_nil)) (pa_cons pe_bl pa_nil)))) pa_nil))))) (pss_one (ps_ret pe_bl)) pss_nil)
      (pss_cons (ps_set (i := 6) scLaw.nd rfl (Or.inl rfl) (pe_call GD hr1 rfl D.m D.F.kp D.b .nil pass0 (pa_cons (pv 1) (pa_cons (pe_callB call_len_seq (by rfl) T.len PySem.boot_len (pa_cons (pv 4) pa_nil)) pa_nil))))
      (pss_cons (ps_if (pt_not (pt_val (pe_call GS hr rfl S.m S.F.kp S.b .nil pass0 (pa_cons (pe_call GZ hr4 rfl Z.m Z.F.kp Z.b .nil pass0 (pa_cons (pe_slice sl_list (pv 4) po_none (po_some (pv 6))) pa_nil))
          (pa_cons (pe_tup (pa_cons pe_str (pa_cons (pv 6) (pa_cons pe_bl pa_nil)))) pa_nil))))) (pss_one (ps_ret pe_bl)) pss_nil)
      (pss_cons (ps_if (pt_not (pt_val (pe_call GS hr rfl S.m S.F.kp S.b .nil pass0 (pa_cons (pe_call GZ hr4 rfl Z.m Z.F.kp Z.b .nil pass0 (pa_cons (pe_op op_cat (pv 4) (pe_lst (pa_cons (pe_call GU hr2 rfl U.m U.F.kp U.b .nil pass0 (pa_cons (pv 1) pa_nil)) pa_nil))) pa_nil))
          (pa_cons (pe_tup (pa_cons pe_str (pa_cons (pe_callB call_len_seq (by rfl) T.len PySem.boot_len (pa_cons (pv 4) pa_nil)) (pa_cons pe_bl pa_nil)))) pa_nil))))) (pss_one (ps_ret pe_bl)) pss_nil)
      (pss_cons (ps_set (i := 7) scLaw.nd rfl (Or.inl rfl) (pe_call GD hr1 rfl D.m D.F.kp D.b .nil pass0 (pa_cons (pv 1) (pa_cons (pe_callB call_len_seq (by rfl) T.len PySem.boot_len (pa_cons (pv 4) pa_nil)) pa_nil))))
      (pss_cons (ps_set (i := 8) scLaw.nd rfl (Or.inl rfl) (pe_ix ix_tup (pe_tup (pa_cons (pe_op op_sub (pe_ix ix_tup (pe_ix ix_list (pv 3) (pv 7) (fun _ _ => rfl)) pe_int (fun _ _ => rfl)) pe_int)
          (pa_cons (pe_op op_add (pe_ix ix_tup (pe_ix ix_list (pv 3) (pv 7) (fun _ _ => rfl)) pe_int (fun _ _ => rfl)) pe_int) (pa_cons pe_int (pa_cons (pe_un un_neg pe_int) pa_nil)))))
          (pe_call GD hr1 rfl D.m D.F.kp D.b .nil pass0 (pa_cons (pv 1) (pa_cons pe_int pa_nil))) (fun _ _ => rfl)))
      (pss_cons (ps_set (i := 9) scLaw.nd rfl (Or.inl rfl) (pe_op op_cat (pe_op op_cat (pe_slice sl_list (pv 4) po_none (po_some (pv 7))) (pe_lst (pa_cons (pv 8) pa_nil)))
          (pe_slice sl_list (pv 4) (po_some (pe_op op_add (pv 7) pe_int)) po_none)))
      (pss_one (ps_ret (pe_call GS hr rfl S.m S.F.kp S.b .nil pass0 (pa_cons (pe_call GZ hr4 rfl Z.m Z.F.kp Z.b .nil pass0 (pa_cons (pv 9) pa_nil))
          (pa_cons (pe_tup (pa_cons pe_str (pa_cons (pv 7) (pa_cons pe_bl pa_nil)))) pa_nil)))))))))))))))))), ?_⟩
    -- the pool, the row, the rows
    refine ⟨_, rfl, a, ns, rfl, hS, fun p c H1 s1 np hP1 => ?_⟩
    refine ⟨_, rfl, p, c, rfl, hP1, fun g v H2 hG hP2 f2 hv => ?_⟩
    refine ⟨_, rfl, v, g, rfl, hG, hv.kp (.of off_same), fun L H3 s3 nL hL => ?_⟩
    have hv3 : Dp K (off p H3) v (dRow g) := hv.kp (.of (same_off s3))
    have hP3 := hP2.same s3
    have Lp := (hP2.ne nL).1
    obtain ⟨pl, hpl⟩ := pool_lst hP3
    have hLo := rows_off hpl Lp hL
    obtain ⟨rv, xs, rfl, hrv, hda⟩ := dp_tupI (hv3.kp (.of off_same))
    clear hv hv3 hpl
    obtain ⟨_, us, eL, sL, dL⟩ := dp_listI hL
    cases eL
    have lL : us.length = (rows g).length := by rw [dL.len, List.length_map]
    have gle := nums_le hG
    have gpos := nums_pos g
    -- numbers
    refine ⟨_, rfl, L, rfl, ⟨_, sL⟩, fun N hN => lc_list (K := K) (a := L) (xs := us) (fun i H' => FmS [N] H3 H' ∧ H' N = some (.lst ((((rows g).take i).map (·.1)).map V.int)))
      ⟨FmS.new hN, upd_same⟩ (fun i H' _ q => sL.kp (Kp.of (q.1.same1 hN))) ?_ ?_⟩
    · rintro i x H' hx ⟨f', hD'⟩
      obtain ⟨d, hd, hdx⟩ := dL.get hx
      obtain ⟨r, hr, rfl⟩ := map_at hd
      obtain ⟨q, rfl, hq⟩ := dp_numI hdx
      have hil := (List.getElem?_eq_some_iff.mp hr).1
      rw [nums_len] at gle
      refine ⟨rfl, _, rfl, q, _, _, _, rfl, rfl, hq.kp (Kp.of (f'.same1 hN)), at_of (j := 0) rfl rfl, _, hD', ?_, f'.trans (FmS.set List.mem_cons_self), ?_⟩
      · rw [List.length_map, List.length_map, List.length_take]
        exact lt_line (by omega)
      · rw [List.take_succ, hr, List.map_append, List.map_append]
        exact upd_same
    rintro H4 ⟨f4, hN4⟩
    rw [lL, List.take_length] at hN4
    have hN4 : H4 N = some (.lst ((nums g).map V.int)) := hN4
    have s4 : Same H3 H4 := f4.same1 hN
    have Np := (hP3.ne hN).1
    have ST4 : St K H4 p c N L g := ⟨hP3.same s4, hN4, Np, hLo.kp (.of (same_off s4))⟩
    clear f4 hN4 hLo
    have hrv4 := hrv.kp (.of s4)
    have hda4 := hda.kp (.of s4)
    clear hrv hda
    cases hda4 with
    | @cons x0 _ _ _ h0 ha =>
    cases ha with
    | @cons x1 _ _ _ h1 ha =>
    cases ha with
    | @cons x2 _ _ _ h2 ha =>
    cases ha
    have hall : DpAll K H4 [x0, x1, x2] [dSizes g.sizes, dMoves g.moves, dRounds g.rounds] := .cons h0 (.cons h1 (.cons h2 .nil))
    obtain ⟨i0, as, rfl, sA, dA⟩ := dp_tupI h0
    obtain ⟨i1, bs, rfl, sB, dB⟩ := dp_tupI h1
    obtain ⟨i2, cs, rfl, sC, dC⟩ := dp_tupI h2
    have lC : cs.length = g.rounds.length := by rw [dC.len, List.length_map]
    have rl := hG.rl
    -- Program(..)
    refine ⟨_, rfl, rv, _, _, _, rfl, rfl, hrv4, at_of (j := 0) rfl rfl, i0, as, rfl, .inr sA, fun l1 n1 => ?_⟩
    have q1 := same_upd (o := .lst as) n1
    refine ⟨_, rfl, rv, _, _, _, rfl, rfl, hrv4.kp (.of q1), at_of (j := 1) rfl rfl, i1, bs, rfl, .inr (sB.kp (.of q1)), fun l2 n2 => ?_⟩
    have q2 := same_upd (o := .lst bs) n2
    have hl1 := q2 _ _ (upd_same (H := H4) (a := l1) (o := .lst as))
    have hl2 := upd_same (H := upd H4 l1 (.lst as)) (a := l2) (o := .lst bs)
    have s5 : Same H4 (upd (upd H4 l1 (.lst as)) l2 (.lst bs)) := q1.trans q2
    generalize upd (upd H4 l1 (.lst as)) l2 (.lst bs) = H5 at hl1 hl2 s5
    refine ⟨_, rfl, rv, _, _, _, rfl, rfl, hrv4.kp (.of s5), at_of (j := 2) rfl rfl, i2, rfl, ⟨_, sC.kp (.of s5)⟩, fun M hM => lc_tup (K := K) (a := i2) (xs := cs) (fun i H' => FmS [M] H5 H' ∧ ∃ vs : List V, vs.length = i ∧ H' M = some (.lst vs) ∧
      DpAll K (off M H') vs ((g.rounds.take i).map fun r => .list (r.map dInstr))) ⟨FmS.new hM, [], rfl, upd_same, .nil⟩ (fun i H' _ q => sC.kp (Kp.of (s5.trans (q.1.same1 hM)))) ?_ ?_⟩
    · rintro i x H' hx ⟨f', vs, hvl, hD', hall'⟩
      obtain ⟨d, hd, hdx⟩ := dC.get hx
      obtain ⟨cd, hc, rfl⟩ := map_at hd
      obtain ⟨e, es, rfl, sE, dE⟩ := dp_tupI hdx
      have hil := (List.getElem?_eq_some_iff.mp hc).1
      have sH' : Same H4 H' := s5.trans (f'.same1 hM)
      refine ⟨rfl, _, rfl, e, es, rfl, .inr (sE.kp (.of sH')), fun t nt => ?_⟩
      have tM := ne_of_some hD' nt
      have fin : FmS [M] H' (upd (upd H' t (.lst es)) M (.lst (vs ++ [.ref t]))) := (FmS.new nt).trans (FmS.set List.mem_cons_self)
      refine ⟨vs, by rw [upd_ne (Ne.symm tM)]; exact hD', lt_line (by omega), f'.trans fin, vs ++ [.ref t], len_app hvl, upd_same, ?_⟩
      rw [List.take_succ, hc, List.map_append]
      refine (hall'.kp (.of fun b o z => ?_)).app (.one (.lst (SqL.of (off_at ?_ tM)) (dE.kp (.of (s5.trans ((f'.trans fin).off1 hM))))))
      · obtain ⟨z1, z2⟩ := off_get z
        exact off_at (fin _ _ z1 (not1 z2)) z2
      · rw [upd_ne tM]
        exact upd_same
    rintro H6 ⟨f6, vs, hvl, hM6, hallM⟩
    rw [lC, List.take_length] at hallM
    have s6 : Same H5 H6 := f6.same1 hM
    refine fun x dx hx hdx ndx => ?_
    have s7 : Same H6 (upd (upd H6 dx (.own x)) x (.ins C dx [])) := (same_upd hdx).trans (same_upd (by rw [upd_ne (Ne.symm ndx)]; exact hx))
    have s47 := s5.trans (s6.trans s7)
    refine ⟨x, dx, .ref l1, .ref l2, .ref M, g, rfl, upd_same, by omega, .lst (SqL.of (s7 _ _ (s6 _ _ hl1))) (dA.kp (.of s47)), .lst (SqL.of (s7 _ _ (s6 _ _ hl2))) (dB.kp (.of s47)), .lst (SqL.of (s7 _ _ hM6)) (hallM.kp (.of (off_same.trans s7))), fun H8 hMd f8 => ⟨rfl, ?_⟩⟩
    have s48 : Same H4 H8 := (s5.trans s6).trans ((((Fm.of (same_upd hdx)).trans Fm.upd).trans f8).same hx)
    have ST8 := ST4.same s48
    have hrv8 := hrv4.kp (.of s48)
    have hall8 := hall.kp (.of s48)
    clear s47 s7 s6 f6 hallM hM6 hl1 hl2 s5 hall hrv4 ST4 f8
    -- the first check
    obtain ⟨xa, dxx, o1, o2, o3, ex, hxa, hfs, hfm, hfr⟩ := id hMd.ex
    refine ⟨_, rfl, xa, C, dxx, _, _, ex, hxa, T.clC, T.nSi, pf_s _ _ _, _, rfl, xa, C, dxx, _, _, ex, hxa, T.clC, T.nMo, pf_m _ _ _, _, rfl, xa, C, dxx, _, _, ex, hxa, T.clC, T.nRo, pf_r _ _ _, by show 3 ≤ sizeLine; decide, fun q nq => ?_⟩
    have t1 := same_upd (o := .lst [.ref o1, .ref o2, .ref o3]) nq
    refine ⟨_, rfl, rv, _, rfl, .inr (hrv8.kp (.of t1)), fun q' nq' => ?_⟩
    have t2 := same_upd (o := .lst [.ref i0, .ref i1, .ref i2]) nq'
    refine ⟨_, _, dList g, rfl, .lst (SqL.of (t2 _ _ upd_same)) (.cons (hfs.kp (.of (t1.trans t2))) (.cons (hfm.kp (.of (t1.trans t2))) (.cons (hfr.kp (.of (t1.trans t2))) .nil))), .lst (SqL.of upd_same) (hall8.kp (.of (t1.trans t2))), dep_mono (dep_row hG), _, rfl, iteF ?_⟩
    have s9 := t1.trans t2
    generalize upd (upd H8 q (.lst [.ref o1, .ref o2, .ref o3])) q' (.lst [.ref i0, .ref i1, .ref i2]) = H9 at s9
    have ST9 := ST8.same s9
    have hrv9 := hrv8.kp (.of s9)
    have hall9 := hall8.kp (.of s9)
    have hMd9 := hMd.same s9
    clear t1 t2 hfs hfm hfr hxa
    -- the second
    refine ⟨_, rfl, _, g, rfl, hMd9, hG, fun q10 H10 s10 n10 hq10 => ⟨_, rfl, _, _, .list ((nums g).map PyData.int), rfl, .lst (SqL.of hq10) (dp_ints _), .lst (SqL.of (s10 _ _ ST9.num)) (dp_ints _), dep_nums hG, _, rfl, iteF ?_⟩⟩
    have ST10 := ST9.same s10
    refine ⟨_, rfl, N, _, rfl, .inl (SqL.of ST10.num), fun q11 n11 => ⟨q11, nums g, rfl, SqL.of upd_same, fun g' hg' y H12 s12 hy => ?_, fun j hj => ?_⟩⟩
    · rw [read_ok hG] at hg'
      cases hg'
      have s1012 := (same_upd (o := .lst ((nums g).map V.int)) n11).trans s12
      have hMd12 := hMd9.same (s10.trans s1012)
      obtain ⟨ya, dy, y1, y2, y3, ey, hya, _⟩ := id hy.ex
      obtain ⟨za, dz, z1, z2, z3, ez, hza, _⟩ := id hMd12.ex
      refine ⟨_, rfl, ⟨ya, za, dy, dz, _, _, ey, ez, hya, hza, g, ey ▸ hy, ez ▸ hMd12⟩, fun H13 e13 => ⟨_, _, .bool true, rfl, .bl _, .bl _, dep_bl _ _, _, rfl, iteF ?_⟩⟩
      have s1013 := s1012.trans (show Same H12 H13 from e13)
      have ST13 := ST10.same s1013
      have hrv13 := hrv9.kp (.of (s10.trans s1013))
      have hall13 := hall9.kp (.of (s10.trans s1013))
      -- the third
      refine ⟨_, rfl, N, nums g, rfl, ST13.num, fun g' hg' x3 H14 s14 hx3 => ?_, fun j hj => ?_⟩
      · rw [read_ok hG] at hg'
        cases hg'
        refine ⟨_, rfl, rv, _, rfl, .inr (hrv13.kp (.of s14)), fun q14 n14 => ⟨by show 3 ≤ sizeLine; decide, fun q15 n15 => ?_⟩⟩
        have t1 := same_upd (o := .lst [.ref i0, .ref i1, .ref i2]) n14
        have t2 := same_upd (o := .tup [.str "read", .ref q14, .bl true]) n15
        refine ⟨_, _, dRead g, rfl, hx3.kp (.of (t1.trans t2)), .tup (SqT.of upd_same) (.cons (.str _) (.cons (.lst (SqL.of (t2 _ _ upd_same)) (hall13.kp (.of (s14.trans (t1.trans t2))))) (.cons (.bl _) .nil))), dep_read hG, _, rfl, iteF ?_⟩
        have s16 := s14.trans (t1.trans t2)
        have ST16 := ST13.same s16
        generalize upd (upd H14 q14 (.lst [.ref i0, .ref i1, .ref i2])) q15 (.tup [.str "read", .ref q14, .bl true]) = H16 at ST16
        -- a beginning
        have nl : ((nums g).map V.int).length = (nums g).length := List.length_map _
        refine ⟨_, rfl, _, rfl, N, _, rfl, .inl (SqL.of ST16.num), p, c, _, rfl, ST16.pool, by rw [nl]; omega, by rw [nl]; omega, fun v H17 v0 v1 hP17 f17 => ?_⟩
        rw [nl] at v1
        have ST17 := ST16.draw f17 hP17
        obtain ⟨k1, rfl⟩ : ∃ k1 : Nat, v = (k1 : Int) := ⟨v.toNat, by omega⟩
        refine ⟨_, rfl, _, rfl, _, rfl, N, _, rfl, SqL.of ST17.num, fun q18 n18 => ?_⟩
        rw [cut_take _ (by omega)]
        have t1 := same_upd (o := .lst (((nums g).take k1).map V.int)) n18
        refine ⟨q18, (nums g).take k1, rfl, upd_same, fun g' hg' => ?_, fun j hj x4 H19 s19 hx4 => ?_⟩
        · rw [read_cut hG (by omega)] at hg'
          cases hg'
        rw [read_cut hG (by omega)] at hj
        cases hj
        refine ⟨_, rfl, by show 3 ≤ sizeLine; decide, fun q20 n20 => ⟨_, _, dRef k1, rfl, hx4.kp (.of (same_upd n20)), .tup (SqT.of upd_same) (.cons (.str _) (.cons (.int _) (.cons (.bl _) .nil))), dep_ref _, _, rfl, iteF ?_⟩⟩
        have ST20 := ST17.same (t1.trans (s19.trans (same_upd (o := .tup [.str "refused", .int k1, .bl true]) n20)))
        generalize upd H19 q20 (.tup [.str "refused", .int k1, .bl true]) = H20 at ST20
        -- one more
        refine ⟨_, rfl, _, rfl, p, c, rfl, ST20.pool, fun v H21 v0 v1 hP21 f21 => ⟨by show 1 ≤ sizeLine; decide, fun q22 n22 => ?_⟩⟩
        have ST21 := ST20.draw f21 hP21
        have t1 := same_upd (o := .lst [.int v]) n22
        refine ⟨N, q22, _, _, rfl, rfl, t1 _ _ ST21.num, upd_same, by rw [nl]; exact Nat.le_of_lt (lt_line (by show (nums g).length + 1 ≤ 65535; omega)), fun q23 n23 => ?_⟩
        have t2 := same_upd (o := .lst ((nums g).map V.int ++ [.int v])) n23
        refine ⟨q23, nums g ++ [v], rfl, by rw [upd_same, List.map_append]; rfl, fun g' hg' => ?_, fun j hj x5 H24 s24 hx5 => ?_⟩
        · rw [read_more hG] at hg'
          cases hg'
        rw [read_more hG] at hj
        cases hj
        have ST24 := ST21.same (t1.trans (t2.trans s24))
        refine ⟨_, rfl, N, _, rfl, .inl (SqL.of ST24.num), by show 3 ≤ sizeLine; decide, fun q25 n25 => ?_⟩
        rw [nl]
        refine ⟨_, _, dRef (nums g).length, rfl, hx5.kp (.of (same_upd n25)), .tup (SqT.of upd_same) (.cons (.str _) (.cons (.int _) (.cons (.bl _) .nil))), dep_ref _, _, rfl, iteF ?_⟩
        have ST25 := ST24.same (same_upd (o := .tup [.str "refused", .int (nums g).length, .bl true]) n25)
        generalize upd H24 q25 (.tup [.str "refused", .int (nums g).length, .bl true]) = H25 at ST25
        -- one replaced
        refine ⟨_, rfl, _, rfl, N, _, rfl, .inl (SqL.of ST25.num), p, c, _, rfl, ST25.pool, by rw [nl]; omega, by rw [nl]; omega, fun v H26 v0 v1 hP26 f26 => ?_⟩
        rw [nl] at v1
        have ST26 := ST25.draw f26 hP26
        obtain ⟨k2, rfl⟩ : ∃ k2 : Nat, v = (k2 : Int) := ⟨v.toNat, by omega⟩
        have hk2 : k2 < (nums g).length := by omega
        obtain ⟨r, hr⟩ := row_at hk2
        obtain ⟨_, ws, eL, sW, dW⟩ := dp_listI ((ST26.rws).kp (.of off_same))
        cases eL
        have hr' : ((rows g).map dNum)[k2]? = some (dNum r) := by rw [List.getElem?_map, hr]; rfl
        obtain ⟨wv, hw, hwd⟩ := dW.getD hr'
        obtain ⟨rp, rfl, hrp⟩ := dp_numI hwd
        refine ⟨_, rfl, _, rfl, L, ws, _, _, rfl, rfl, sW, at_of (j := k2) rfl hw, rp, _, _, _, rfl, rfl, hrp, at_of (j := 1) rfl rfl, _, _, rfl, rfl, _, rfl, _, rfl, L, ws, _, _, rfl, rfl, sW, at_of (j := k2) rfl hw, rp, _, _, _, rfl, rfl, hrp, at_of (j := 2) rfl rfl, _, _, rfl, rfl, _, rfl, by show 4 ≤ sizeLine; decide, fun q27 n27 => ?_⟩
        have t27 := same_upd (o := .tup [.int (r.2.1 - 1), .int (r.2.2 + 1), .int 65536, .int (-1)]) n27
        have ST27 := ST26.same t27
        refine ⟨_, rfl, p, c, 4, rfl, ST27.pool, by decide, by decide, fun v H28 v0 v1 hP28 f28 => ?_⟩
        have ST28 := ST27.draw f28 hP28
        obtain ⟨wx, hwx, hbad⟩ := wrong_at (rows_range hG r (List.mem_of_getElem? hr)) v0 v1
        have q27p : q27 ≠ p := (ST26.pool.ne n27).1
        refine ⟨q27, _, _, _, rfl, rfl, SqT.of (f28 _ _ upd_same q27p), hwx, ?_⟩
        -- numbers[:place] + [wrong] + numbers[place + 1:]
        refine ⟨_, rfl, _, rfl, _, rfl, N, _, rfl, SqL.of ST28.num, fun q29 n29 => ?_⟩
        rw [cut_take _ (Nat.le_of_lt hk2)]
        have t1 := same_upd (o := .lst (((nums g).take k2).map V.int)) n29
        refine ⟨_, rfl, by show 1 ≤ sizeLine; decide, fun q30 n30 => ?_⟩
        have t2 := same_upd (o := .lst [.int wx]) n30
        have tl : ((nums g).take k2).length ≤ 300 := by
          rw [List.length_take]
          omega
        refine ⟨q29, q30, _, _, rfl, rfl, t2 _ _ upd_same, upd_same, by rw [List.length_map]; exact Nat.le_of_lt (lt_line (by show ((nums g).take k2).length + 1 ≤ 65535; omega)), fun q31 n31 => ?_⟩
        have t3 := same_upd (o := .lst (((nums g).take k2).map V.int ++ [.int wx])) n31
        have ST31 := ST28.same (t1.trans (t2.trans t3))
        have g31 := upd_same (H := upd (upd H28 q29 (.lst (((nums g).take k2).map V.int))) q30 (.lst [.int wx])) (a := q31) (o := .lst (((nums g).take k2).map V.int ++ [.int wx]))
        generalize upd (upd (upd H28 q29 (.lst (((nums g).take k2).map V.int))) q30 (.lst [.int wx])) q31 (.lst (((nums g).take k2).map V.int ++ [.int wx])) = H31 at ST31 g31
        clear t1 t2 t3
        refine ⟨_, rfl, _, rfl, _, _, rfl, rfl, _, rfl, N, _, rfl, SqL.of ST31.num, fun q32 n32 => ?_⟩
        rw [show ((k2 : Int) + 1) = ((k2 + 1 : Nat) : Int) from rfl, cut_drop _ (by omega)]
        have t4 := same_upd (o := .lst (((nums g).drop (k2 + 1)).map V.int)) n32
        have dl : ((nums g).drop (k2 + 1)).length ≤ 300 := by
          rw [List.length_drop]
          omega
        refine ⟨q31, q32, _, _, rfl, rfl, t4 _ _ g31, upd_same, by rw [List.length_append, List.length_map, List.length_map]; exact Nat.le_of_lt (lt_line (by show ((nums g).take k2).length + 1 + ((nums g).drop (k2 + 1)).length ≤ 65535; omega)), fun q33 n33 => ?_⟩
        refine ⟨_, rfl, q33, (nums g).take k2 ++ [wx] ++ (nums g).drop (k2 + 1), rfl, by rw [upd_same, List.map_append, List.map_append]; rfl, fun g' hg' => ?_, fun j hj x6 H34 s34 hx6 => ?_⟩
        · rw [read_bad hG hr hbad] at hg'
          cases hg'
        rw [read_bad hG hr hbad] at hj
        cases hj
        exact ⟨_, rfl, by show 3 ≤ sizeLine; decide, fun q35 n35 => ⟨_, _, dRef k2, rfl, hx6.kp (.of (same_upd n35)), .tup (SqT.of upd_same) (.cons (.str _) (.cons (.int _) (.cons (.bl _) .nil))), dep_ref _, k _⟩⟩
      · rw [read_ok hG] at hj
        cases hj
    · rw [read_ok hG] at hj
      cases hj
end
end K79
/-! The facts of the top, and the walk. -/
namespace K79
open PySem PySem.W PySem.BadX L2
/-- an error of the class at S is what «except S» names -/
theorem exm_own {K : PySem.W.Frag} {S : Addr} (h1 : PySem.W.subIn K (.ref S) (.type "BaseException") = some true) (h2 : PySem.W.isClsIn K S = true) (h3 : PySem.W.typeIn K (.ref S) = some (.type "type")) (h4 : PySem.W.subIn K (.ref S) (.ref S) = some true) :
    PySem.W.exmOne K (.ref S) (.ref S) = some true := by
  have h2' : (PySem.W.clsIn K S).isSome = true := h2
  show (if (PySem.W.subIn K (.ref S) (.type "BaseException") == some true) = true then (if ((PySem.W.clsIn K S).isSome && PySem.W.typeIn K (.ref S) == some (.type "type")) = true then PySem.W.subIn K (.ref S) (.ref S) else none) else none) = some true
  rw [h1, h2', h3]
  exact h4
theorem kit_own {K : PySem.W.Frag} {S : Addr} : PySem.W.kitOne K (.ref S) (.ref S) = some true := by
  unfold PySem.W.kitOne
  exact if_pos (beq_self_eq_true _)
theorem all_mk {P : Program} {w : World} {K : PySem.W.Frag} {h : Heap} {mg : Str → Option Value} {fa C CN CB CG fI aN fP fE fN fT fK fgO fgW fgL fgS fgD fgF fgU fgC fgR fgQ fgZ fgA : Addr} (X : K.In h) (G : h.Ns mainGlobals mg) (hfa : mg "law" = some (.ref fa))
    {tgGr : Tok}
    {tgMM : Tok}
    {tgMB : Tok}
    {tgMV : Tok}
    {tgMR : Tok}
    {u0 u1 u2 u3 u4 u5 u6 u7 u8 u9 u10 u11 u12 u13 u14 u15 : Tok}
    {nA : Nat} {slA : Array (Option Value)}
    {odP anP : Option Addr} {slP : Array (Option Value)} {ocP kVP dcP pmP cdP ctP : Value}
    {odE anE : Option Addr} {slE : Array (Option Value)} {ocE kVE dcE pmE cdE ctE : Value}
    {odN anN : Option Addr} {slN : Array (Option Value)} {ocN kVN dcN pmN cdN ctN : Value}
    {odT anT : Option Addr} {slT : Array (Option Value)} {ocT kVT dcT pmT cdT ctT : Value}
    {odK anK : Option Addr} {slK : Array (Option Value)} {ocK kVK dcK pmK cdK ctK : Value}
    {odgO angO : Option Addr} {slgO : Array (Option Value)} {ocgO kVgO dcgO pmgO cdgO ctgO : Value}
    {odgW angW : Option Addr} {slgW : Array (Option Value)} {ocgW kVgW dcgW pmgW cdgW ctgW : Value}
    {odgL angL : Option Addr} {slgL : Array (Option Value)} {ocgL kVgL dcgL pmgL cdgL ctgL : Value}
    {odgS angS : Option Addr} {slgS : Array (Option Value)} {ocgS kVgS dcgS pmgS cdgS ctgS : Value}
    {odgD angD : Option Addr} {slgD : Array (Option Value)} {ocgD kVgD dcgD pmgD cdgD ctgD : Value}
    {odgF angF : Option Addr} {slgF : Array (Option Value)} {ocgF kVgF dcgF pmgF cdgF ctgF : Value}
    {odgU angU : Option Addr} {slgU : Array (Option Value)} {ocgU kVgU dcgU pmgU cdgU ctgU : Value}
    {odgC angC : Option Addr} {slgC : Array (Option Value)} {ocgC kVgC dcgC pmgC cdgC ctgC : Value}
    {odgR angR : Option Addr} {slgR : Array (Option Value)} {ocgR kVgR dcgR pmgR cdgR ctgR : Value}
    {odgQ angQ : Option Addr} {slgQ : Array (Option Value)} {ocgQ kVgQ dcgQ pmgQ cdgQ ctgQ : Value}
    {odgZ angZ : Option Addr} {slgZ : Array (Option Value)} {ocgZ kVgZ dcgZ pmgZ cdgZ ctgZ : Value}
    {odgA angA : Option Addr} {slgA : Array (Option Value)} {ocgA kVgA dcgA pmgA cdgA ctgA : Value}
    {nm q : Str} {N : Addr} {bs : List Value} {sn : List Str} {sub : List Value} {ab : Bool} {col : Option Bool} {dd : Option Addr} {m0 m1 m2 m3 m5 : Option Value}
    {cda cc : Addr} {ocI : Value} {odI : Option Addr} {dcI pmI : Value} {anI : Option Addr} {ctI : Value} {slI : Array (Option Value)}
    {oD : Value} {dD : Option Addr} {sD : Array (Option Value)} {vD : Array Value} {file : Str} {tf : Tok}
    {oX : Value} {dX : Option Addr} {sX : Array (Option Value)}
    (aC : PySem.W.nsIn K mainGlobals "Program" = some (some (.ref C)))
    (aCN : PySem.W.nsIn K mainGlobals "Numbers" = some (some (.ref CN)))
    (aCB : PySem.W.nsIn K mainGlobals "BadCode" = some (some (.ref CB)))
    (aCG : PySem.W.nsIn K mainGlobals "GameError" = some (some (.ref CG)))
    (aA : PySem.W.nsIn K mainGlobals "NAMES" = some (some (.ref aN)))
    (gGr : PySem.W.nsIn K mainGlobals "GREATEST" = some (some (.int 65535 tgGr)))
    (gMM : PySem.W.nsIn K mainGlobals "MOST_MOVES" = some (some (.int 8 tgMM)))
    (gMB : PySem.W.nsIn K mainGlobals "MOST_BRANCHINGS" = some (some (.int 24 tgMB)))
    (gMV : PySem.W.nsIn K mainGlobals "MOST_VARIABLES" = some (some (.int 12 tgMV)))
    (gMR : PySem.W.nsIn K mainGlobals "MOST_ROUNDS" = some (some (.int 8 tgMR)))
    (z_len : PySem.W.nsIn K mainGlobals "len" = some none)
    (z_range : PySem.W.nsIn K mainGlobals "range" = some none)
    (z_tuple : PySem.W.nsIn K mainGlobals "tuple" = some none)
    (z_list : PySem.W.nsIn K mainGlobals "list" = some none)
    (z_isinstance : PySem.W.nsIn K mainGlobals "isinstance" = some none)
    (z_int : PySem.W.nsIn K mainGlobals "int" = some none)
    (z_min : PySem.W.nsIn K mainGlobals "min" = some none)
    (z_bool : PySem.W.nsIn K mainGlobals "bool" = some none)
    (z_str : PySem.W.nsIn K mainGlobals "str" = some none)
    (z_super : PySem.W.nsIn K mainGlobals "super" = some none)
    (lA : K.lookup aN = some ⟨.type "tuple", none, .seq #[.str "push" u0, .str "load" u1, .str "store" u2, .str "sign" u3, .str "jump" u4, .str "skip" u5, .str "lot" u6, .str "end" u7, .str "ask" u8, .str "show" u9, .str "pay" u10, .str "take" u11, .str "view" u12, .str "long" u13, .str "unit" u14, .str "back" u15] nA, slA⟩)
    (aP : PySem.W.findIn K (.ref C) "__init__" = some (some (.ref fP)))
    (iP : PySem.W.isFn K (.ref fP) = true)
    (lP : K.lookup fP = some ⟨ocP, odP, .func (PySem.W.fnOf "__init__" "Program.__init__" (defArgs sPI) (defBody sPI) (defScope sPI) .none kVP dcP pmP anP cdP ctP), slP⟩)
    (cP : PySem.W.codeIn K cdP "Program.__init__" = true)
    (kP : PySem.W.keepIn K (.ref fP) = true)
    (aE : PySem.W.findIn K (.ref C) "__eq__" = some (some (.ref fE)))
    (iE : PySem.W.isFn K (.ref fE) = true)
    (lE : K.lookup fE = some ⟨ocE, odE, .func (PySem.W.fnOf "__eq__" "Program.__eq__" (defArgs sPE) (defBody sPE) (defScope sPE) .none kVE dcE pmE anE cdE ctE), slE⟩)
    (cE : PySem.W.codeIn K cdE "Program.__eq__" = true)
    (kE : PySem.W.keepIn K (.ref fE) = true)
    (aN_ : PySem.W.findIn K (.ref CN) "__init__" = some (some (.ref fN)))
    (iN : PySem.W.isFn K (.ref fN) = true)
    (lN : K.lookup fN = some ⟨ocN, odN, .func (PySem.W.fnOf "__init__" "Numbers.__init__" (defArgs sNI) (defBody sNI) (defScope sNI) .none kVN dcN pmN anN cdN ctN), slN⟩)
    (cN : PySem.W.codeIn K cdN "Numbers.__init__" = true)
    (kN : PySem.W.keepIn K (.ref fN) = true)
    (aT : PySem.W.findIn K (.ref CN) "take" = some (some (.ref fT)))
    (iT : PySem.W.isFn K (.ref fT) = true)
    (lT : K.lookup fT = some ⟨ocT, odT, .func (PySem.W.fnOf "take" "Numbers.take" (defArgs sNT) (defBody sNT) (defScope sNT) .none kVT dcT pmT anT cdT ctT), slT⟩)
    (cT : PySem.W.codeIn K cdT "Numbers.take" = true)
    (kT : PySem.W.keepIn K (.ref fT) = true)
    (aK : PySem.W.findIn K (.ref CN) "take_code" = some (some (.ref fK)))
    (iK : PySem.W.isFn K (.ref fK) = true)
    (lK : K.lookup fK = some ⟨ocK, odK, .func (PySem.W.fnOf "take_code" "Numbers.take_code" (defArgs sNC) (defBody sNC) (defScope sNC) .none kVK dcK pmK anK cdK ctK), slK⟩)
    (cK : PySem.W.codeIn K cdK "Numbers.take_code" = true)
    (kK : PySem.W.keepIn K (.ref fK) = true)
    (agO : PySem.W.nsIn K mainGlobals "_law_pool" = some (some (.ref fgO)))
    (lgO : K.lookup fgO = some ⟨ocgO, odgO, .func (PySem.W.fnOf "_law_pool" "_law_pool" (defArgs sPool) (defBody sPool) (defScope sPool) .none kVgO dcgO pmgO angO cdgO ctgO), slgO⟩)
    (cgO : PySem.W.codeIn K cdgO "_law_pool" = true)
    (kgO : PySem.W.keepIn K (.ref fgO) = true)
    (agW : PySem.W.nsIn K mainGlobals "_law_row" = some (some (.ref fgW)))
    (lgW : K.lookup fgW = some ⟨ocgW, odgW, .func (PySem.W.fnOf "_law_row" "_law_row" (defArgs sRow) (defBody sRow) (defScope sRow) .none kVgW dcgW pmgW angW cdgW ctgW), slgW⟩)
    (cgW : PySem.W.codeIn K cdgW "_law_row" = true)
    (kgW : PySem.W.keepIn K (.ref fgW) = true)
    (agL : PySem.W.nsIn K mainGlobals "_law_numbers" = some (some (.ref fgL)))
    (lgL : K.lookup fgL = some ⟨ocgL, odgL, .func (PySem.W.fnOf "_law_numbers" "_law_numbers" (defArgs sLN) (defBody sLN) (defScope sLN) .none kVgL dcgL pmgL angL cdgL ctgL), slgL⟩)
    (cgL : PySem.W.codeIn K cdgL "_law_numbers" = true)
    (kgL : PySem.W.keepIn K (.ref fgL) = true)
    (agS : PySem.W.nsIn K mainGlobals "_law_same" = some (some (.ref fgS)))
    (lgS : K.lookup fgS = some ⟨ocgS, odgS, .func (PySem.W.fnOf "_law_same" "_law_same" (defArgs sSame) (defBody sSame) (defScope sSame) .none kVgS dcgS pmgS angS cdgS ctgS), slgS⟩)
    (cgS : PySem.W.codeIn K cdgS "_law_same" = true)
    (kgS : PySem.W.keepIn K (.ref fgS) = true)
    (agD : PySem.W.nsIn K mainGlobals "_law_draw" = some (some (.ref fgD)))
    (lgD : K.lookup fgD = some ⟨ocgD, odgD, .func (PySem.W.fnOf "_law_draw" "_law_draw" (defArgs sDraw) (defBody sDraw) (defScope sDraw) .none kVgD dcgD pmgD angD cdgD ctgD), slgD⟩)
    (cgD : PySem.W.codeIn K cdgD "_law_draw" = true)
    (kgD : PySem.W.keepIn K (.ref fgD) = true)
    (agF : PySem.W.nsIn K mainGlobals "_law_few" = some (some (.ref fgF)))
    (lgF : K.lookup fgF = some ⟨ocgF, odgF, .func (PySem.W.fnOf "_law_few" "_law_few" (defArgs sFew) (defBody sFew) (defScope sFew) .none kVgF dcgF pmgF angF cdgF ctgF), slgF⟩)
    (cgF : PySem.W.codeIn K cdgF "_law_few" = true)
    (kgF : PySem.W.keepIn K (.ref fgF) = true)
    (agU : PySem.W.nsIn K mainGlobals "_law_number" = some (some (.ref fgU)))
    (lgU : K.lookup fgU = some ⟨ocgU, odgU, .func (PySem.W.fnOf "_law_number" "_law_number" (defArgs sNum) (defBody sNum) (defScope sNum) .none kVgU dcgU pmgU angU cdgU ctgU), slgU⟩)
    (cgU : PySem.W.codeIn K cdgU "_law_number" = true)
    (kgU : PySem.W.keepIn K (.ref fgU) = true)
    (agC : PySem.W.nsIn K mainGlobals "_law_names_of_code" = some (some (.ref fgC)))
    (lgC : K.lookup fgC = some ⟨ocgC, odgC, .func (PySem.W.fnOf "_law_names_of_code" "_law_names_of_code" (defArgs sNoc) (defBody sNoc) (defScope sNoc) .none kVgC dcgC pmgC angC cdgC ctgC), slgC⟩)
    (cgC : PySem.W.codeIn K cdgC "_law_names_of_code" = true)
    (kgC : PySem.W.keepIn K (.ref fgC) = true)
    (agR : PySem.W.nsIn K mainGlobals "read_program" = some (some (.ref fgR)))
    (lgR : K.lookup fgR = some ⟨ocgR, odgR, .func (PySem.W.fnOf "read_program" "read_program" (defArgs sRP) (defBody sRP) (defScope sRP) .none kVgR dcgR pmgR angR cdgR ctgR), slgR⟩)
    (cgR : PySem.W.codeIn K cdgR "read_program" = true)
    (kgR : PySem.W.keepIn K (.ref fgR) = true)
    (agQ : PySem.W.nsIn K mainGlobals "program_numbers" = some (some (.ref fgQ)))
    (lgQ : K.lookup fgQ = some ⟨ocgQ, odgQ, .func (PySem.W.fnOf "program_numbers" "program_numbers" (defArgs sPN) (defBody sPN) (defScope sPN) .none kVgQ dcgQ pmgQ angQ cdgQ ctgQ), slgQ⟩)
    (cgQ : PySem.W.codeIn K cdgQ "program_numbers" = true)
    (kgQ : PySem.W.keepIn K (.ref fgQ) = true)
    (agZ : PySem.W.nsIn K mainGlobals "_law_read" = some (some (.ref fgZ)))
    (lgZ : K.lookup fgZ = some ⟨ocgZ, odgZ, .func (PySem.W.fnOf "_law_read" "_law_read" (defArgs sLR) (defBody sLR) (defScope sLR) .none kVgZ dcgZ pmgZ angZ cdgZ ctgZ), slgZ⟩)
    (cgZ : PySem.W.codeIn K cdgZ "_law_read" = true)
    (kgZ : PySem.W.keepIn K (.ref fgZ) = true)
    (agA : PySem.W.nsIn K mainGlobals "law" = some (some (.ref fgA)))
    (lgA : K.lookup fgA = some ⟨ocgA, odgA, .func (PySem.W.fnOf "law" "law" (defArgs sLaw) (defBody sLaw) (defScope sLaw) .none kVgA dcgA pmgA angA cdgA ctgA), slgA⟩)
    (cgA : PySem.W.codeIn K cdgA "law" = true)
    (kgA : PySem.W.keepIn K (.ref fgA) = true)
    (pgC : PySem.W.plainGet K C Str.empty = true)
    (hdC : PySem.W.hasDictIn K C = true)
    (poC : PySem.W.plainOver K C = true)
    (saC : PySem.W.findIn K (.ref C) "__setattr__" = some (some (.builtin "object.__setattr__")))
    (mkC : PySem.W.makesIn K C = true)
    (kcC : PySem.W.keepIn K (.ref C) = true)
    (pgCN : PySem.W.plainGet K CN Str.empty = true)
    (hdCN : PySem.W.hasDictIn K CN = true)
    (poCN : PySem.W.plainOver K CN = true)
    (saCN : PySem.W.findIn K (.ref CN) "__setattr__" = some (some (.builtin "object.__setattr__")))
    (mkCN : PySem.W.makesIn K CN = true)
    (kcCN : PySem.W.keepIn K (.ref CN) = true)
    (nSi : PySem.W.findIn K (.ref C) "sizes" = some none)
    (nMo : PySem.W.findIn K (.ref C) "moves" = some none)
    (nRo : PySem.W.findIn K (.ref C) "rounds" = some none)
    (nNu : PySem.W.findIn K (.ref CN) "numbers" = some none)
    (nAt : PySem.W.findIn K (.ref CN) "at" = some none)
    (pca : PySem.W.findIn K (.ref C) "__class__" = some (some (.builtin "object.__class__")))
    (ocn : PySem.W.specialIn K (.builtin "object.__class__") "__get__" = some (some (.builtin "getset_descriptor.__get__")))
    (oct : PySem.W.takesIn K (.builtin "object.__class__") = some true)
    (pcm : PySem.W.mroIn K C (.type "object") = some true)
    (xB : K.lookup CB = some (excClassObj nm q CB N bs [.ref CG, .type "ValueError", .type "Exception", .type "BaseException", .type "object"] true sn sub ab col dd m0 m1 m2 m3 m5 "ValueError.__new__"))
    (bsa : PySem.W.findIn K (.ref CB) "__setattr__" = some (some (.builtin "object.__setattr__")))
    (bga : PySem.W.findIn K (.ref CB) "__getattribute__" = some (some (.builtin "BaseException.__getattribute__")))
    (bgg : PySem.W.findIn K (.ref CB) "__getattr__" = some none)
    (bno : PySem.W.findIn K (.ref CB) "at" = some none)
    (bic : PySem.W.findIn K (.ref CB) "__init__" = some (some (.ref fI)))
    (btc : PySem.W.typeIn K (.ref fI) = some (.type "function"))
    (bkc : PySem.W.keepIn K (.ref CB) = true)
    (bex : PySem.W.subIn K (.ref CB) (.type "BaseException") = some true)
    (bve : PySem.W.subIn K (.ref CB) (.type "ValueError") = some true)
    (bty : PySem.W.typeIn K (.ref CB) = some (.type "type"))
    (bhd : PySem.W.hasDictIn K CB = true)
    (bis : PySem.W.isClsIn K CB = true)
    (bss : PySem.W.subIn K (.ref CB) (.ref CB) = some true)
    (bmr : PySem.W.mroIn K CB (.ref CB) = some true)
    (bmo : PySem.W.mroIn K CB (.type "object") = some true)
    (bca : PySem.W.findIn K (.ref CB) "__class__" = some (some (.builtin "object.__class__")))
    (bsp : PySem.W.ks_superIn K CB CB "__init__" = some (some (.builtin "ValueError.__init__")))
    (bop : PySem.W.nsIn K cStatics "thirdparty.any" = some none)
    (bto : (P.main.scope.names.lookup ("super" : Str)).isSome = false)
    (lI : K.lookup fI = some ⟨ocI, odI, .func (ksFn "__init__" "BadCode.__init__" PySem.BadX.iA PySem.BadX.iB PySem.BadX.iS .none .none dcI pmI anI (.ref cda) ctI cc), slI⟩)
    (cI : PySem.W.codeIn K (.ref cda) "BadCode.__init__" = true)
    (lD : K.lookup cda = some ⟨oD, dD, .fields vD, sD⟩)
    (gD : vD[2]? = some (.str file tf))
    (eD : ((P.main.file : Str) == file) = true)
    (lX : K.lookup cc = some ⟨oX, dX, .cell (some (.ref CB)), sX⟩)
    (kG : PySem.W.kitOne K (.ref CB) (.ref CG) = some true)
    : ∃ fd : FuncData, (∀ (s : Shared) (v : Value), BindsTo s fd ⟨[v], []⟩ [("_law_script", v)]) ∧ ∀ base : Heap, K.In base → base.Ns mainGlobals mg → FnOk P w K mg base CX0 7 fa fd ["_law_script"] (spLaw K) := by
  have e := hfa.symm.trans (PySem.W.mg_of X G agA)
  cases e
  have bad : PySem.BadX.BadTxt P K mg CB fI :=
    { gC := PySem.W.mg_of X G aCB, noS := PySem.W.mg_none_of X G z_super, cls := ⟨nm, q, N, bs, _, sn, sub, ab, col, dd, m0, m1, m2, m3, m5, xB, by with_unfolding_all rfl⟩, sa := bsa, ga := bga, gg := bgg, noN := bno, iC := bic, tC := btc, kC := bkc, exC := bex, veC := bve, tyC := bty, hdC := bhd,
      te := exm_own bex bis bty bss, mrC := bmr, spC := bsp, opq := bop, top := bto, fn := ⟨cda, cc, _, _, _, _, _, _, _, lI, cI, ⟨_, _, _, _, _, _, lD, gD, eD⟩, ⟨_, _, _, lX⟩⟩ }
  have T : Txt P K mg C CN CB CG fI aN :=
    { bad := bad, clC := ⟨pgC, hdC, poC, saC⟩, nSi := nSi, nMo := nMo, nRo := nRo, mgC := PySem.W.mg_of X G aC, clN := ⟨pgCN, hdCN, poCN, saCN⟩, nNu := nNu, nAt := nAt, mgN := PySem.W.mg_of X G aCN,
      greatest := ⟨_, PySem.W.mg_of X G gGr⟩, mostM := ⟨_, PySem.W.mg_of X G gMM⟩, mostB := ⟨_, PySem.W.mg_of X G gMB⟩, mostV := ⟨_, PySem.W.mg_of X G gMV⟩, mostR := ⟨_, PySem.W.mg_of X G gMR⟩, mgA := PySem.W.mg_of X G aA,
      namesT := ⟨_, _, _, lA, rfl, rfl, rfl, (.cons ⟨_, rfl⟩ (.cons ⟨_, rfl⟩ (.cons ⟨_, rfl⟩ (.cons ⟨_, rfl⟩ (.cons ⟨_, rfl⟩ (.cons ⟨_, rfl⟩ (.cons ⟨_, rfl⟩ (.cons ⟨_, rfl⟩ (.cons ⟨_, rfl⟩ (.cons ⟨_, rfl⟩ (.cons ⟨_, rfl⟩ (.cons ⟨_, rfl⟩ (.cons ⟨_, rfl⟩ (.cons ⟨_, rfl⟩ (.cons ⟨_, rfl⟩ (.cons ⟨_, rfl⟩ .nil))))))))))))))))⟩, mgG := PySem.W.mg_of X G aCG,
      len := PySem.W.mg_none_of X G z_len, range := PySem.W.mg_none_of X G z_range, tuple := PySem.W.mg_none_of X G z_tuple, list := PySem.W.mg_none_of X G z_list, isinstance := PySem.W.mg_none_of X G z_isinstance,
      int := PySem.W.mg_none_of X G z_int, min := PySem.W.mg_none_of X G z_min, bool := PySem.W.mg_none_of X G z_bool, str := PySem.W.mg_none_of X G z_str }
  have FP := fun_mk (st := sPI) lP cP kP
  have bP := FP.binds (ps := ["self", "sizes", "moves", "rounds"]) fun _ _ _ _ _ _ us hl => match us, hl with | [_, _, _, _], _ => rfl
  have FE := fun_mk (st := sPE) lE cE kE
  have bE := FE.binds (ps := ["self", "other"]) fun _ _ _ _ _ _ us hl => match us, hl with | [_, _], _ => rfl
  have FN := fun_mk (st := sNI) lN cN kN
  have bN := FN.binds (ps := ["self", "numbers"]) fun _ _ _ _ _ _ us hl => match us, hl with | [_, _], _ => rfl
  have FT := fun_mk (st := sNT) lT cT kT
  have bT := FT.binds (ps := ["self", "least", "most"]) fun _ _ _ _ _ _ us hl => match us, hl with | [_, _, _], _ => rfl
  have FK := fun_mk (st := sNC) lK cK kK
  have bK := FK.binds (ps := ["self"]) fun _ _ _ _ _ _ us hl => match us, hl with | [_], _ => rfl
  have FgO := fun_mk (st := sPool) lgO cgO kgO
  have bgO := FgO.binds (ps := ["_law_script", "_law_budget"]) fun _ _ _ _ _ _ us hl => match us, hl with | [_, _], _ => rfl
  have FgW := fun_mk (st := sRow) lgW cgW kgW
  have bgW := FgW.binds (ps := ["_law_pool_here"]) fun _ _ _ _ _ _ us hl => match us, hl with | [_], _ => rfl
  have FgL := fun_mk (st := sLN) lgL cgL kgL
  have bgL := FgL.binds (ps := ["_law_row_here"]) fun _ _ _ _ _ _ us hl => match us, hl with | [_], _ => rfl
  have FgS := fun_mk (st := sSame) lgS cgS kgS
  have bgS := FgS.binds (ps := ["_law_actual", "_law_due"]) fun _ _ _ _ _ _ us hl => match us, hl with | [_, _], _ => rfl
  have FgD := fun_mk (st := sDraw) lgD cgD kgD
  have bgD := FgD.binds (ps := ["_law_pool_here", "_law_size"]) fun _ _ _ _ _ _ us hl => match us, hl with | [_, _], _ => rfl
  have FgF := fun_mk (st := sFew) lgF cgF kgF
  have bgF := FgF.binds (ps := ["_law_pool_here", "_law_most"]) fun _ _ _ _ _ _ us hl => match us, hl with | [_, _], _ => rfl
  have FgU := fun_mk (st := sNum) lgU cgU kgU
  have bgU := FgU.binds (ps := ["_law_pool_here"]) fun _ _ _ _ _ _ us hl => match us, hl with | [_], _ => rfl
  have FgC := fun_mk (st := sNoc) lgC cgC kgC
  have bgC := FgC.binds (ps := []) fun _ _ _ _ _ _ us hl => match us, hl with | [], _ => rfl
  have FgR := fun_mk (st := sRP) lgR cgR kgR
  have bgR := FgR.binds (ps := ["numbers"]) fun _ _ _ _ _ _ us hl => match us, hl with | [_], _ => rfl
  have FgQ := fun_mk (st := sPN) lgQ cgQ kgQ
  have bgQ := FgQ.binds (ps := ["program"]) fun _ _ _ _ _ _ us hl => match us, hl with | [_], _ => rfl
  have FgZ := fun_mk (st := sLR) lgZ cgZ kgZ
  have bgZ := FgZ.binds (ps := ["_law_numbers_here"]) fun _ _ _ _ _ _ us hl => match us, hl with | [_], _ => rfl
  have FgA := fun_mk (st := sLaw) lgA cgA kgA
  have NC : NumC K CN fN fT fK _ _ _ := ⟨⟨mkCN, aN_, iN, kcCN⟩, FN, bN, ⟨aT, iT, kT⟩, FT, bT, ⟨aK, iK, kK⟩, FK, bK⟩
  have PC : ProC K C fP fE _ _ := ⟨⟨mkC, aP, iP, kcC⟩, FP, bP, FE, bE, aE, iE, pca, ocn, oct, pcm, kit_own⟩
  have IC : ExcC K CB := ⟨bga, bgg, bex, bhd, bca, ocn, oct, bmo⟩
  exact ⟨PySem.W.fnOf "law" "law" (defArgs sLaw) (defBody sLaw) (defScope sLaw) .none kVgA dcgA pmgA angA cdgA ctgA, fun s v => .of_eq rfl, fun base _ _ =>
    ok_law FgA ⟨T, NC, PC, IC, bis, kG⟩ ⟨⟨FgO, PySem.W.mg_of X G agO, bgO⟩, ⟨FgW, PySem.W.mg_of X G agW, bgW⟩, ⟨FgL, PySem.W.mg_of X G agL, bgL⟩, ⟨FgS, PySem.W.mg_of X G agS, bgS⟩, ⟨FgD, PySem.W.mg_of X G agD, bgD⟩, ⟨FgF, PySem.W.mg_of X G agF, bgF⟩, ⟨FgU, PySem.W.mg_of X G agU, bgU⟩, ⟨FgC, PySem.W.mg_of X G agC, bgC⟩, ⟨FgR, PySem.W.mg_of X G agR, bgR⟩, ⟨FgQ, PySem.W.mg_of X G agQ, bgQ⟩, ⟨FgZ, PySem.W.mg_of X G agZ, bgZ⟩⟩⟩
theorem walk {l : PySem.W.OpenLaw} {q : Program} {loose : List Str} {XP : (Str → Option Value) → Heap → Prop} {YP : World → Heap → Prop} {d : DefRec} {K : Params → PySem.W.Frag} (hn : l.most = some 63) (hdf : d.params.defaults = [])
    (hY : ∀ (w : World) (h : Heap), YP w h → (K w.params).In h)
    (F : ∀ (w : World) (mg : Str → Option Value) (fa : Addr) (h : Heap), (K w.params).In h → h.Ns mainGlobals mg → mg d.name = some (.ref fa) →
      ∃ fd : FuncData, (∀ (s : Shared) (u : Value), BindsTo s fd ⟨[u], []⟩ [("_law_script", u)]) ∧ ∀ base : Heap, (K w.params).In base → base.Ns mainGlobals mg → FnOk l.prog w (K w.params) mg base CX0 7 fa fd ["_law_script"] (spLaw (K w.params))) :
    PySem.W.WalkO q loose XP YP l.row.toRowW d [] (fun f vs => PySem.call f vs) :=
  L2.walk_of (n := 63) (k := 7) (x := "_law_script") (CX := fun _ => CX0) (sp := fun w => spLaw (K w.params)) hn (by decide) hdf ⟨rfl, by decide, by decide⟩ hY F (fun _ _ a ns _ _ hS => ⟨a, ns, rfl, hS, fun _ => rfl⟩) fun _ _ _ _ _ z => z
end K79
open PySem PySem.W PyProof.Rows
set_option maxRecDepth 100000 in
set_option maxHeartbeats 0 in
theorem PySem.Challenge.cw_sureplay_k79_programs_as_whole_numbers_holds : PySem.Challenge.rw_sureplay_k79_programs_as_whole_numbers.Holds := by
  w_on; o_law; k_head; (case hw => w_witness2)
  k_fill
  refine K79.walk (l := PySem.Challenge.rw_sureplay_k79_programs_as_whole_numbers) rfl rfl (fun w h Y => PySem.W.kIn_of Y) ?F
  case F =>
    intro w mg fa h KX G hmg
    refine' K79.all_mk KX G hmg ?aC ?aCN ?aCB ?aCG ?aA ?gGr ?gMM ?gMB ?gMV ?gMR ?z_len ?z_range ?z_tuple ?z_list ?z_isinstance ?z_int ?z_min ?z_bool ?z_str ?z_super ?lA ?aP ?iP ?lP ?cP ?kP ?aE ?iE ?lE ?cE ?kE ?aN_ ?iN ?lN ?cN ?kN ?aT ?iT ?lT ?cT ?kT ?aK ?iK ?lK ?cK ?kK ?agO ?lgO ?cgO ?kgO ?agW ?lgW ?cgW ?kgW ?agL ?lgL ?cgL ?kgL ?agS ?lgS ?cgS ?kgS ?agD ?lgD ?cgD ?kgD ?agF ?lgF ?cgF ?kgF ?agU ?lgU ?cgU ?kgU ?agC ?lgC ?cgC ?kgC ?agR ?lgR ?cgR ?kgR ?agQ ?lgQ ?cgQ ?kgQ ?agZ ?lgZ ?cgZ ?kgZ ?agA ?lgA ?cgA ?kgA ?pgC ?hdC ?poC ?saC ?mkC ?kcC ?pgCN ?hdCN ?poCN ?saCN ?mkCN ?kcCN ?nSi ?nMo ?nRo ?nNu ?nAt ?pca ?ocn ?oct ?pcm ?xB ?bsa ?bga ?bgg ?bno ?bic ?btc ?bkc ?bex ?bve ?bty ?bhd ?bis ?bss ?bmr ?bmo ?bca ?bsp ?bop ?bto ?lI ?cI ?lD ?gD ?eD ?lX ?kG
    (case aC => k_is)
    (case aCN => k_is)
    (case aCB => k_is)
    (case aCG => k_is)
    (case aA => k_is)
    (case gGr => k_is)
    (case gMM => k_is)
    (case gMB => k_is)
    (case gMV => k_is)
    (case gMR => k_is)
    (case z_len => k_is)
    (case z_range => k_is)
    (case z_tuple => k_is)
    (case z_list => k_is)
    (case z_isinstance => k_is)
    (case z_int => k_is)
    (case z_min => k_is)
    (case z_bool => k_is)
    (case z_str => k_is)
    (case z_super => k_is)
    (case lA => k_is)
    (case aP => k_is)
    (case iP => k_is)
    (case lP => k_is)
    (case cP => k_is)
    (case kP => k_is)
    (case aE => k_is)
    (case iE => k_is)
    (case lE => k_is)
    (case cE => k_is)
    (case kE => k_is)
    (case aN_ => k_is)
    (case iN => k_is)
    (case lN => k_is)
    (case cN => k_is)
    (case kN => k_is)
    (case aT => k_is)
    (case iT => k_is)
    (case lT => k_is)
    (case cT => k_is)
    (case kT => k_is)
    (case aK => k_is)
    (case iK => k_is)
    (case lK => k_is)
    (case cK => k_is)
    (case kK => k_is)
    (case agO => k_is)
    (case lgO => k_is)
    (case cgO => k_is)
    (case kgO => k_is)
    (case agW => k_is)
    (case lgW => k_is)
    (case cgW => k_is)
    (case kgW => k_is)
    (case agL => k_is)
    (case lgL => k_is)
    (case cgL => k_is)
    (case kgL => k_is)
    (case agS => k_is)
    (case lgS => k_is)
    (case cgS => k_is)
    (case kgS => k_is)
    (case agD => k_is)
    (case lgD => k_is)
    (case cgD => k_is)
    (case kgD => k_is)
    (case agF => k_is)
    (case lgF => k_is)
    (case cgF => k_is)
    (case kgF => k_is)
    (case agU => k_is)
    (case lgU => k_is)
    (case cgU => k_is)
    (case kgU => k_is)
    (case agC => k_is)
    (case lgC => k_is)
    (case cgC => k_is)
    (case kgC => k_is)
    (case agR => k_is)
    (case lgR => k_is)
    (case cgR => k_is)
    (case kgR => k_is)
    (case agQ => k_is)
    (case lgQ => k_is)
    (case cgQ => k_is)
    (case kgQ => k_is)
    (case agZ => k_is)
    (case lgZ => k_is)
    (case cgZ => k_is)
    (case kgZ => k_is)
    (case agA => k_is)
    (case lgA => k_is)
    (case cgA => k_is)
    (case kgA => k_is)
    (case pgC => k_is)
    (case hdC => k_is)
    (case poC => k_is)
    (case saC => k_is)
    (case mkC => k_is)
    (case kcC => k_is)
    (case pgCN => k_is)
    (case hdCN => k_is)
    (case poCN => k_is)
    (case saCN => k_is)
    (case mkCN => k_is)
    (case kcCN => k_is)
    (case nSi => k_is)
    (case nMo => k_is)
    (case nRo => k_is)
    (case nNu => k_is)
    (case nAt => k_is)
    (case pca => k_is)
    (case ocn => k_is)
    (case oct => k_is)
    (case pcm => k_is)
    (case xB => k_is)
    (case bsa => k_is)
    (case bga => k_is)
    (case bgg => k_is)
    (case bno => k_is)
    (case bic => k_is)
    (case btc => k_is)
    (case bkc => k_is)
    (case bex => k_is)
    (case bve => k_is)
    (case bty => k_is)
    (case bhd => k_is)
    (case bis => k_is)
    (case bss => k_is)
    (case bmr => k_is)
    (case bmo => k_is)
    (case bca => k_is)
    (case bsp => ks_is)
    (case bop => k_is)
    (case bto => first | rfl | decide +kernel)
    (case lI => k_is)
    (case cI => k_is)
    (case lD => k_is)
    (case gD => rfl)
    (case eD => first | rfl | decide +kernel)
    (case lX => k_is)
    (case kG => kit_is)
