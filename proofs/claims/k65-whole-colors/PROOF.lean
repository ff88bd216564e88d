import PyProof.Rows.All
import Wide.All
import OpenK.AllK
import Wide.FinOn
import HandS.ForMost
import HandS.More
import HandS.Conv
import HandS.DictComp
import HandS.IsInst
import HandS.TupAny
import HandS.Style
import HandS.Flow
import HandS.NoneIn
import HandS.Sort
import HandS.Wide
import HandS.EndBits
import KE.DataMinMax
import PySem.Challenge.RW_nodoubt_k65_whole_colors
import HandS.Evl
set_option Elab.async false
set_option linter.all false
/-! law_k65_whole_colors: the proof, by hand over the hand layer. Made of the texts in wip/ by merge.py. -/
section
/-! The plain law, second half: colorings of a graph given by a relation A on the places below n.
    grow: depth first; cols: breadth first (the law); Run: the program's search, turn by turn. -/
set_option autoImplicit false
set_option linter.all false
namespace K65

section
variable (A : Nat → Nat → Bool)

/-- the color c may stand behind row -/
def okc (row : List Nat) (c : Nat) : Bool := (List.range row.length).all fun o => !(A row.length o && row[o]? == some c)

theorem okc_iff {row : List Nat} {c : Nat} : okc A row c = true ↔ ∀ o, o < row.length → A row.length o = true → row[o]? ≠ some c := by
  unfold okc
  rw [List.all_eq_true]
  constructor
  · intro h o ho ha e
    have q := h o (List.mem_range.mpr ho)
    rw [ha, e] at q
    simp at q
  · intro h o ho
    have ho' := List.mem_range.mp ho
    cases ha : A row.length o with
    | false => rfl
    | true =>
      have q := h o ho' ha
      simp only [Bool.true_and, Bool.not_eq_true', beq_eq_false_iff_ne]
      exact q

/-- all ways on from row, r more places, k colors -/
def grow (k : Nat) : Nat → List Nat → List (List Nat)
  | 0, row => [row]
  | r + 1, row => ((List.range k).filter (okc A row)).flatMap fun c => grow k r (row ++ [c])

def level (k : Nat) (rows : List (List Nat)) : List (List Nat) :=
  rows.flatMap fun row => ((List.range k).filter (okc A row)).map fun c => row ++ [c]
def cols (k : Nat) : Nat → List (List Nat)
  | 0 => [[]]
  | p + 1 => level A k (cols k p)

def levels (k : Nat) : Nat → List (List Nat) → List (List Nat)
  | 0, rows => rows
  | r + 1, rows => levels k r (level A k rows)
theorem levels_grow (k : Nat) : ∀ (r : Nat) (rows : List (List Nat)), levels A k r rows = rows.flatMap (grow A k r)
  | 0, rows => by
    show rows = rows.flatMap fun row => [row]
    induction rows with
    | nil => rfl
    | cons x xs ih => rw [List.flatMap_cons, ← ih]; rfl
  | r + 1, rows => by
    show levels A k r (level A k rows) = _
    rw [levels_grow k r, level, List.flatMap_assoc]
    congr 1
    funext row
    rw [List.flatMap_map]
    rfl
theorem levels_succ (k : Nat) : ∀ (r : Nat) (rows : List (List Nat)), levels A k (r + 1) rows = level A k (levels A k r rows)
  | 0, _ => rfl
  | r + 1, rows => levels_succ k r (level A k rows)
theorem cols_levels (k : Nat) : ∀ n, cols A k n = levels A k n [[]]
  | 0 => rfl
  | n + 1 => by rw [levels_succ, ← cols_levels k n]; rfl
theorem cols_grow (k n : Nat) : cols A k n = grow A k n [] := by
  rw [cols_levels, levels_grow]
  simp

/-- x is right at the place p -/
def okAt (k : Nat) (x : List Nat) (p : Nat) : Prop := ∃ c, x[p]? = some c ∧ c < k ∧ ∀ o, o < p → A p o = true → x[o]? ≠ some c

theorem mem_grow {k : Nat} : ∀ {r : Nat} {row x : List Nat}, x ∈ grow A k r row ↔ (∃ z, x = row ++ z) ∧ x.length = row.length + r ∧ ∀ p, row.length ≤ p → p < x.length → okAt A k x p
  | 0, row, x => by
    rw [grow, List.mem_singleton]
    constructor
    · rintro rfl
      exact ⟨⟨[], by simp⟩, rfl, fun p h1 h2 => by omega⟩
    · rintro ⟨⟨z, rfl⟩, h, _⟩
      rw [List.length_append] at h
      have hz : z = [] := List.eq_nil_of_length_eq_zero (by omega)
      rw [hz, List.append_nil]
  | r + 1, row, x => by
    rw [grow, List.mem_flatMap]
    constructor
    · rintro ⟨c, hc, hx⟩
      obtain ⟨hk, hok⟩ := List.mem_filter.mp hc
      have hk := List.mem_range.mp hk
      obtain ⟨⟨z, rfl⟩, hl, hp⟩ := mem_grow.mp hx
      have hs : (row ++ [c]).length = row.length + 1 := by rw [List.length_append, List.length_singleton]
      rw [hs] at hl hp
      refine ⟨⟨c :: z, by simp⟩, by omega, fun p h1 h2 => ?_⟩
      by_cases e : p = row.length
      · subst e
        refine ⟨c, by simp, hk, fun o ho ha => ?_⟩
        have q := okc_iff A |>.mp hok o ho ha
        rw [List.append_assoc, List.getElem?_append_left ho]
        exact q
      · exact hp p (by omega) h2
    · rintro ⟨⟨z, rfl⟩, hl, hp⟩
      cases z with
      | nil => rw [List.append_nil] at hl; omega
      | cons c z =>
        have h0 := hp row.length (Nat.le_refl _) (by rw [hl]; omega)
        obtain ⟨d, hd, hdk, ho⟩ := h0
        have e : c = d := by simpa using hd
        subst e
        refine ⟨c, List.mem_filter.mpr ⟨List.mem_range.mpr hdk, (okc_iff A).mpr fun o h1 h2 => ?_⟩, ?_⟩
        · have q := ho o h1 h2
          rw [List.getElem?_append_left h1] at q
          exact q
        · refine mem_grow.mpr ⟨⟨z, by simp⟩, ?_, fun p h1 h2 => ?_⟩
          · rw [hl, List.length_append, List.length_singleton]; omega
          · rw [List.length_append, List.length_singleton] at h1
            exact hp p (by omega) h2
theorem mem_cols {k n : Nat} {x : List Nat} : x ∈ cols A k n ↔ x.length = n ∧ ∀ p, p < n → okAt A k x p := by
  rw [cols_grow, mem_grow]
  constructor
  · rintro ⟨_, h, hp⟩
    rw [List.length_nil, Nat.zero_add] at h
    exact ⟨h, fun p hpn => hp p (Nat.zero_le _) (by omega)⟩
  · rintro ⟨h, hp⟩
    exact ⟨⟨x, rfl⟩, by simpa using h, fun p _ h2 => hp p (by omega)⟩

/-! ### the first one gives 0 to a place without a neighbour -/
theorem findSome_head {α β : Type} {f : α → Option β} {x : β} : ∀ {l : List α}, l.findSome? f = some x → ∃ a ∈ l, f a = some x
  | [], h => by cases h
  | a :: l, h => by
    rw [List.findSome?_cons] at h
    cases e : f a with
    | some y =>
      rw [e] at h
      exact ⟨a, List.mem_cons_self, e.trans h⟩
    | none =>
      rw [e] at h
      obtain ⟨b, hb, hf⟩ := findSome_head h
      exact ⟨b, List.mem_cons_of_mem _ hb, hf⟩

theorem head_zero {k : Nat} {p : Nat} (iso : ∀ o, A p o = false ∧ A o p = false) : ∀ {r : Nat} {row x : List Nat}, (grow A k r row).head? = some x → row.length ≤ p → p < row.length + r → x[p]? = some 0
  | 0, row, x, h, h1, h2 => by omega
  | r + 1, row, x, h, h1, h2 => by
    rw [grow, List.head?_flatMap] at h
    obtain ⟨c, hc, hx⟩ := findSome_head h
    obtain ⟨hk, hok⟩ := List.mem_filter.mp hc
    have hk := List.mem_range.mp hk
    by_cases e : p = row.length
    · -- the color 0 is tried first, and does
      have xin : x ∈ grow A k r (row ++ [c]) := List.mem_of_mem_head? (by rw [hx]; rfl)
      obtain ⟨⟨z, ez⟩, hl, hp⟩ := (mem_grow A).mp xin
      have hs : (row ++ [c]).length = row.length + 1 := by rw [List.length_append, List.length_singleton]
      rw [hs] at hl hp
      have ok0 : okc A row 0 = true := (okc_iff A).mpr fun o ho ha => by
        rw [← e, (iso o).1] at ha
        cases ha
      have yin : x.set p 0 ∈ grow A k r (row ++ [0]) := by
        refine (mem_grow A).mpr ⟨⟨z, ?_⟩, ?_, fun q q1 q2 => ?_⟩
        · rw [ez, e, List.append_assoc, List.set_append_right _ _ (Nat.le_refl _), Nat.sub_self, List.append_assoc]
          rfl
        · rw [List.length_set, List.length_append, List.length_singleton]; omega
        · rw [List.length_append, List.length_singleton] at q1
          rw [List.length_set] at q2
          obtain ⟨d, hd, hdk, ho⟩ := hp q (by omega) q2
          refine ⟨d, ?_, hdk, fun o o1 o2 => ?_⟩
          · rw [List.getElem?_set_ne (by omega)]
            exact hd
          · by_cases eo : p = o
            · subst eo
              rw [(iso q).2] at o2
              cases o2
            · rw [List.getElem?_set_ne eo]
              exact ho o o1 o2
      have hk0 : 0 < k := by omega
      have hne : grow A k r (row ++ [0]) ≠ [] := List.ne_nil_of_mem yin
      obtain ⟨y, hy⟩ : ∃ y, (grow A k r (row ++ [0])).head? = some y := by
        cases hg : grow A k r (row ++ [0]) with
        | nil => exact absurd hg hne
        | cons y ys => exact ⟨y, rfl⟩
      have hr : List.range k = 0 :: (List.range (k - 1)).map Nat.succ := by
        have : k = (k - 1) + 1 := by omega
        rw [this, List.range_succ_eq_map]
        rfl
      rw [hr, List.filter_cons_of_pos ok0, List.findSome?_cons, hy] at h
      have exy : y = x := Option.some.inj h
      subst exy
      have yin' : y ∈ grow A k r (row ++ [0]) := List.mem_of_mem_head? (by rw [hy]; rfl)
      obtain ⟨⟨z', e2⟩, _, _⟩ := (mem_grow A).mp yin'
      rw [e2, e]
      simp
    · exact head_zero iso hx (by rw [List.length_append, List.length_singleton]; omega) (by rw [List.length_append, List.length_singleton]; omega)

theorem first_zero {k n p : Nat} {x : List Nat} (h : (cols A k n).head? = some x) (iso : ∀ o, A p o = false ∧ A o p = false) (hp : p < n) : x[p]? = some 0 := by
  rw [cols_grow] at h
  exact head_zero A iso h (Nat.zero_le _) (by simpa using hp)

/-! ### the program's search -/
/-- the next color that may stand behind row, from c on, r of them left -/
def nx (row : List Nat) : Nat → Nat → Nat
  | 0, c => c
  | r + 1, c => if okc A row c = true then c else nx row r (c + 1)
theorem nx_ok {row : List Nat} {k c : Nat} (h : okc A row c = true) : nx A row (k - c) c = c := by
  cases e : k - c with
  | zero => rfl
  | succ r => rw [nx, if_pos h]
theorem nx_no {row : List Nat} {k c : Nat} (hc : c < k) (h : okc A row c = false) : nx A row (k - c) c = nx A row (k - (c + 1)) (c + 1) := by
  have e : k - c = (k - (c + 1)) + 1 := by omega
  rw [e, nx, if_neg (by rw [h]; decide)]
theorem nx_end {row : List Nat} {k c : Nat} (hc : k ≤ c) : nx A row (k - c) c = c := by
  have e : k - c = 0 := by omega
  rw [e, nx]
theorem nx_le {row : List Nat} : ∀ {r c : Nat}, nx A row r c ≤ c + r
  | 0, c => Nat.le_refl _
  | r + 1, c => by
    rw [nx]
    by_cases h : okc A row c = true
    · rw [if_pos h]; omega
    · rw [if_neg h]
      have := nx_le (row := row) (r := r) (c := c + 1)
      omega
/-- from found, with the next color to be tried c, the search goes m turns more and ends with res -/
inductive Run (n k : Nat) : List Nat → Nat → Nat → Option (List Nat) → Prop where
  | done {f : List Nat} {c : Nat} : f.length = n → Run n k f c 0 (some f)
  | push {f : List Nat} {c m : Nat} {res : Option (List Nat)} : f.length < n → nx A f (k - c) c < k → Run n k (f ++ [nx A f (k - c) c]) 0 m res → Run n k f c (m + 1) res
  | fail {c : Nat} : 0 < n → ¬ nx A [] (k - c) c < k → Run n k [] c 0 none
  | pop {f : List Nat} {d c m : Nat} {res : Option (List Nat)} : f.length + 1 < n → ¬ nx A (f ++ [d]) (k - c) c < k → Run n k f (d + 1) m res → Run n k (f ++ [d]) c (m + 1) res

variable {A}
theorem Run.same {n k : Nat} {f : List Nat} {c c' m : Nat} {res : Option (List Nat)} (h : Run A n k f c m res) (hf : f.length < n) (e : nx A f (k - c') c' = nx A f (k - c) c) : Run A n k f c' m res := by
  cases h with
  | done q => omega
  | push q1 q2 q3 => exact .push hf (by rw [e]; exact q2) (by rw [e]; exact q3)
  | fail q1 q2 => exact .fail q1 (by rw [e]; exact q2)
  | pop q1 q2 q3 => exact .pop q1 (by rw [e]; exact q2) q3
/-- what the search does once no color is left behind found -/
def Exh (A : Nat → Nat → Bool) (n k : Nat) (found : List Nat) (m : Nat) (res : Option (List Nat)) : Prop :=
  (found = [] ∧ res = none) ∨ ∃ f d, found = f ++ [d] ∧ Run A n k f (d + 1) m res

/-- the ways on from found, the next color from c on (j of them left), then r more places -/
def cand (A : Nat → Nat → Bool) (k r : Nat) (found : List Nat) : Nat → Nat → List (List Nat)
  | 0, _ => []
  | j + 1, c => (if okc A found c = true then grow A k r (found ++ [c]) else []) ++ cand A k r found j (c + 1)
theorem cand_range {k r : Nat} {found : List Nat} : ∀ {j c : Nat}, cand A k r found j c = ((List.range' c j).filter (okc A found)).flatMap fun d => grow A k r (found ++ [d])
  | 0, _ => rfl
  | j + 1, c => by
    rw [cand, cand_range, List.range'_succ, List.filter_cons]
    by_cases h : okc A found c = true
    · rw [if_pos h, if_pos h, List.flatMap_cons]
    · rw [if_neg h, if_neg h, List.nil_append]
theorem cand_grow {k r : Nat} {found : List Nat} : cand A k r found k 0 = grow A k (r + 1) found := by
  rw [cand_range, ← List.range_eq_range', grow]

theorem exh_run {n k m : Nat} {found : List Nat} {res : Option (List Nat)} {c : Nat} (hf : found.length < n) (hc : ¬ nx A found (k - c) c < k) (h : Exh A n k found m res) : ∃ m', Run A n k found c m' res := by
  rcases h with ⟨rfl, rfl⟩ | ⟨f, d, rfl, h⟩
  · exact ⟨0, .fail (by simpa using hf) hc⟩
  · refine ⟨m + 1, .pop ?_ hc h⟩
    rw [List.length_append, List.length_singleton] at hf
    exact hf

theorem dfs {n k : Nat} : ∀ (r : Nat) (found : List Nat), found.length + (r + 1) = n → ∀ (j c : Nat), j = k - c → c ≤ k →
    (∀ x, (cand A k r found j c).head? = some x → ∃ m, Run A n k found c m (some x)) ∧
    ((cand A k r found j c).head? = none → ∀ m res, Exh A n k found m res → ∃ m', Run A n k found c m' res) := by
  intro r
  induction r with
  | zero =>
    intro found hl j
    induction j with
    | zero =>
      intro c hj hc
      refine ⟨fun x h => (nomatch h), fun _ m res h => exh_run (by omega) (by rw [nx_end A (by omega)]; omega) h⟩
    | succ j ih =>
      intro c hj hc
      by_cases ok : okc A found c = true
      · have e : (cand A k 0 found (j + 1) c).head? = some (found ++ [c]) := by
          rw [cand, if_pos ok, grow]; rfl
        refine ⟨fun x h => ?_, fun h => by rw [e] at h; cases h⟩
        rw [e] at h
        cases h
        refine ⟨1, .push (by omega) (by rw [nx_ok A ok]; omega) ?_⟩
        rw [nx_ok A ok]
        exact .done (by rw [List.length_append, List.length_singleton]; omega)
      · have ok' : okc A found c = false := by cases h : okc A found c <;> simp_all
        have e : cand A k 0 found (j + 1) c = cand A k 0 found j (c + 1) := by rw [cand, if_neg ok, List.nil_append]
        obtain ⟨h1, h2⟩ := ih (c + 1) (by omega) (by omega)
        rw [e]
        have en : nx A found (k - c) c = nx A found (k - (c + 1)) (c + 1) := nx_no A (by omega) ok'
        refine ⟨fun x h => ?_, fun h m res q => ?_⟩
        · obtain ⟨m, z⟩ := h1 x h
          exact ⟨m, z.same (by omega) en⟩
        · obtain ⟨m', z⟩ := h2 h m res q
          exact ⟨m', z.same (by omega) en⟩
  | succ r ihr =>
    intro found hl j
    induction j with
    | zero =>
      intro c hj hc
      refine ⟨fun x h => (nomatch h), fun _ m res h => exh_run (by omega) (by rw [nx_end A (by omega)]; omega) h⟩
    | succ j ih =>
      intro c hj hc
      obtain ⟨h1, h2⟩ := ih (c + 1) (by omega) (by omega)
      by_cases ok : okc A found c = true
      · have inn := ihr (found ++ [c]) (by rw [List.length_append, List.length_singleton]; omega) k 0 (by omega) (Nat.zero_le _)
        rw [cand_grow] at inn
        obtain ⟨i1, i2⟩ := inn
        have pushes : ∀ m res, Run A n k (found ++ [c]) 0 m res → Run A n k found c (m + 1) res := fun m res h =>
          .push (by omega) (by rw [nx_ok A ok]; omega) (by rw [nx_ok A ok]; exact h)
        have e : (cand A k (r + 1) found (j + 1) c).head? = ((grow A k (r + 1) (found ++ [c])).head?).or (cand A k (r + 1) found j (c + 1)).head? := by
          rw [cand, if_pos ok, List.head?_append]
        cases hg : (grow A k (r + 1) (found ++ [c])).head? with
        | some y =>
          rw [e, hg]
          refine ⟨fun x h => ?_, fun h => by cases h⟩
          have exy : y = x := Option.some.inj h
          subst exy
          obtain ⟨m, z⟩ := i1 y hg
          exact ⟨m + 1, pushes m _ z⟩
        | none =>
          rw [e, hg]
          have back : ∀ m res, Run A n k found (c + 1) m res → ∃ m', Run A n k found c m' res := fun m res h => by
            obtain ⟨m', z⟩ := i2 hg m res (.inr ⟨found, c, rfl, h⟩)
            exact ⟨m' + 1, pushes m' _ z⟩
          refine ⟨fun x h => ?_, fun h m res q => ?_⟩
          · obtain ⟨m, z⟩ := h1 x h
            exact back m _ z
          · obtain ⟨m', z⟩ := h2 h m res q
            exact back m' _ z
      · have ok' : okc A found c = false := by cases h : okc A found c <;> simp_all
        have e : cand A k (r + 1) found (j + 1) c = cand A k (r + 1) found j (c + 1) := by rw [cand, if_neg ok, List.nil_append]
        rw [e]
        have en : nx A found (k - c) c = nx A found (k - (c + 1)) (c + 1) := nx_no A (by omega) ok'
        refine ⟨fun x h => ?_, fun h m res q => ?_⟩
        · obtain ⟨m, z⟩ := h1 x h
          exact ⟨m, z.same (by omega) en⟩
        · obtain ⟨m', z⟩ := h2 h m res q
          exact ⟨m', z.same (by omega) en⟩

/-- the search ends with the first coloring -/
theorem search (A : Nat → Nat → Bool) (n k : Nat) : ∃ m, Run A n k [] 0 m (cols A k n).head? := by
  cases n with
  | zero => exact ⟨0, .done rfl⟩
  | succ r =>
    obtain ⟨h1, h2⟩ := dfs (A := A) (n := r + 1) (k := k) r [] (by simp) k 0 (by omega) (Nat.zero_le _)
    rw [cand_grow, ← cols_grow] at h1 h2
    cases e : (cols A k (r + 1)).head? with
    | some x => exact h1 x e
    | none => exact h2 e 0 none (.inl ⟨rfl, rfl⟩)

/-! ### crowds -/
theorem nodup_le : ∀ {k : Nat} {l : List Nat}, l.Nodup → (∀ x ∈ l, x < k) → l.length ≤ k
  | 0, [], _, _ => Nat.le_refl _
  | 0, x :: _, _, h => absurd (h x List.mem_cons_self) (Nat.not_lt_zero _)
  | k + 1, l, hn, h => by
    have q := nodup_le (k := k) (l := l.filter (· != k)) (hn.sublist List.filter_sublist) fun x hx => by
      obtain ⟨h1, h2⟩ := List.mem_filter.mp hx
      have h3 := h x h1
      have h4 : x ≠ k := by simpa using h2
      omega
    have e : l.length ≤ (l.filter (· != k)).length + 1 := by
      clear q h
      induction l with
      | nil => simp
      | cons a l ih =>
        rw [List.nodup_cons] at hn
        by_cases ha : a = k
        · subst ha
          have : l.filter (· != a) = l := List.filter_eq_self.mpr fun b hb => by
            have : b ≠ a := fun e => hn.1 (e ▸ hb)
            simpa using this
          rw [List.filter_cons, this]
          simp
        · rw [List.filter_cons, if_pos (by simpa using ha)]
          have := ih hn.2
          simp only [List.length_cons]
          omega
    omega

/-- a crowd: its places rise, are below n, and each two of them are neighbours -/
structure Crowd (A : Nat → Nat → Bool) (n : Nat) (cr : List Nat) : Prop where
  rise : cr.Pairwise (· < ·)
  low : ∀ x ∈ cr, x < n
  near : cr.Pairwise fun a b => A b a = true
theorem Crowd.le {n k : Nat} {cr x : List Nat} (h : Crowd A n cr) (hx : x ∈ cols A k n) : cr.length ≤ k := by
  obtain ⟨hl, hp⟩ := (mem_cols A).mp hx
  have hn : (cr.map fun p => x.getD p 0).Nodup := by
    show List.Pairwise _ _
    rw [List.pairwise_map]
    have both : cr.Pairwise fun a b => a < b ∧ A b a = true := List.Pairwise.and h.rise h.near
    refine List.Pairwise.imp_of_mem (fun {a b} ha hb hab e => ?_) both
    obtain ⟨c, hc, _, ho⟩ := hp b (h.low b hb)
    have q := ho a hab.1 hab.2
    have ha' : a < x.length := by rw [hl]; exact h.low a ha
    rw [List.getD_eq_getElem?_getD, List.getD_eq_getElem?_getD, hc, List.getElem?_eq_getElem ha'] at e
    rw [List.getElem?_eq_getElem ha'] at q
    exact q (congrArg some e)
  have hk : ∀ y ∈ cr.map fun p => x.getD p 0, y < k := fun y hy => by
    obtain ⟨p, hm, rfl⟩ := List.mem_map.mp hy
    obtain ⟨c, hc, hck, _⟩ := hp p (h.low p hm)
    rw [List.getD_eq_getElem?_getD, hc]
    exact hck
  have q := nodup_le hn hk
  rw [List.length_map] at q
  exact q
theorem Crowd.len {n : Nat} {cr : List Nat} (h : Crowd A n cr) : cr.length ≤ n := nodup_le (h.rise.imp fun {a b} q => Nat.ne_of_lt q) h.low
theorem Crowd.nil {n : Nat} : Crowd A n [] := ⟨List.Pairwise.nil, fun _ h => (nomatch h), List.Pairwise.nil⟩
theorem Crowd.mono {n m : Nat} {cr : List Nat} (h : Crowd A n cr) (hm : n ≤ m) : Crowd A m cr := ⟨h.rise, fun x hx => Nat.lt_of_lt_of_le (h.low x hx) hm, h.near⟩
theorem Crowd.snoc {n : Nat} {cr : List Nat} (h : Crowd A n cr) (ha : ∀ o ∈ cr, A n o = true) : Crowd A (n + 1) (cr ++ [n]) := by
  refine ⟨?_, fun x hx => ?_, ?_⟩
  · rw [List.pairwise_append]
    refine ⟨h.rise, List.pairwise_singleton _ _, fun a ha' b hb => ?_⟩
    rw [List.mem_singleton] at hb
    subst hb
    exact h.low a ha'
  · rcases List.mem_append.mp hx with h1 | h1
    · exact Nat.lt_succ_of_lt (h.low x h1)
    · rw [List.mem_singleton] at h1
      omega
  · rw [List.pairwise_append]
    refine ⟨h.near, List.pairwise_singleton _ _, fun a ha' b hb => ?_⟩
    rw [List.mem_singleton] at hb
    subst hb
    exact ha a ha'

/-! ### enough colors -/
theorem id_cols {n k : Nat} (irr : ∀ p o, A p o = true → p ≠ o) (h : n ≤ k) : List.range n ∈ cols A k n := by
  refine (mem_cols A).mpr ⟨List.length_range, fun p hp => ⟨p, by simp [hp], by omega, fun o ho ha e => ?_⟩⟩
  have hon : o < n := by omega
  rw [List.getElem?_range hon] at e
  exact irr p o ha (Option.some.inj e).symm
end
end K65
end

section
/-! The plain law, first half: trees, their letters, and what the program (gath) and the law (look) gather from them. -/
set_option autoImplicit false
set_option linter.all false
namespace K65

/-- an expression: a leaf (the empty text, or the letter a, false, or b, true); maybe (false), many (true); join (false), or (true) -/
inductive Ex where
  | lf (o : Option Bool)
  | sg (m : Bool) (e : Ex)
  | ro (b : Bool) (es : List Ex)

mutual
def Ex.lets : Ex → List Bool
  | .lf o => o.toList
  | .sg _ e => e.lets
  | .ro _ es => letsL es
def letsL : List Ex → List Bool
  | [] => []
  | e :: r => e.lets ++ letsL r
end
mutual
def Ex.cnt : Ex → Nat
  | .lf _ => 1
  | .sg _ e => 1 + e.cnt
  | .ro _ es => 1 + cntL es
def cntL : List Ex → Nat
  | [] => 0
  | e :: r => e.cnt + cntL r
end
mutual
def Ex.hasE : Ex → Bool
  | .lf o => o.isNone
  | .sg _ _ => true
  | .ro b es => if b then anyE es else allE es
def anyE : List Ex → Bool
  | [] => false
  | e :: r => e.hasE || anyE r
def allE : List Ex → Bool
  | [] => true
  | e :: r => e.hasE && allE r
end
theorem letsL_eq : ∀ es : List Ex, letsL es = (es.map Ex.lets).flatten
  | [] => rfl
  | e :: r => by rw [letsL, letsL_eq r]; rfl
theorem cntL_eq : ∀ es : List Ex, cntL es = (es.map Ex.cnt).sum
  | [] => rfl
  | e :: r => by rw [cntL, cntL_eq r, List.map_cons, List.sum_cons]
theorem anyE_eq : ∀ es : List Ex, anyE es = (es.map Ex.hasE).any id
  | [] => rfl
  | e :: r => by rw [anyE, anyE_eq r]; rfl
theorem allE_eq : ∀ es : List Ex, allE es = (es.map Ex.hasE).all id
  | [] => rfl
  | e :: r => by rw [allE, allE_eq r]; rfl

/-- the form, at most d deep, within a row of the kind o -/
def Good : Nat → Option Bool → Ex → Prop
  | _, _, .lf _ => True
  | 0, _, .sg _ _ => False
  | 0, _, .ro _ _ => False
  | d + 1, _, .sg _ e => Good d none e
  | d + 1, o, .ro b es => o ≠ some b ∧ 2 ≤ es.length ∧ es.length ≤ 6 ∧ ∀ e ∈ es, Good d (some b) e
theorem Good.up : ∀ {d : Nat} {o : Option Bool} {e : Ex}, Good d o e → Good (d + 1) o e
  | _, _, .lf _, _ => trivial
  | 0, _, .sg _ _, h => h.elim
  | 0, _, .ro _ _, h => h.elim
  | d + 1, _, .sg _ e, h => Good.up (d := d) h
  | d + 1, o, .ro b es, h => ⟨h.1, h.2.1, h.2.2.1, fun e he => Good.up (h.2.2.2 e he)⟩
theorem Good.any : ∀ {d : Nat} {o : Option Bool} {e : Ex}, Good d o e → Good d none e
  | 0, _, .lf _, _ => trivial
  | _ + 1, _, .lf _, _ => trivial
  | 0, _, .sg _ _, h => h.elim
  | 0, _, .ro _ _, h => h.elim
  | d + 1, _, .sg _ e, h => h
  | d + 1, o, .ro b es, h => ⟨(fun z => by cases z), h.2.1, h.2.2.1, h.2.2.2⟩
theorem Good.lf {d : Nat} {o : Option Bool} {x : Option Bool} : Good d o (.lf x) := by cases d <;> trivial
theorem Good.le {d d' : Nat} {o : Option Bool} {e : Ex} (h : Good d o e) (hd : d ≤ d') : Good d' o e := by
  induction hd with
  | refl => exact h
  | step _ ih => exact ih.up

/-! ### what is gathered -/
structure G where
  f : List Nat
  l : List Nat
  p : List (Nat × Nat)
def prd (xs ys : List Nat) : List (Nat × Nat) := xs.flatMap fun x => ys.map fun y => (x, y)
theorem mem_prd {xs ys : List Nat} {q : Nat × Nat} : q ∈ prd xs ys ↔ q.1 ∈ xs ∧ q.2 ∈ ys := by
  unfold prd
  rw [List.mem_flatMap]
  constructor
  · rintro ⟨x, hx, hq⟩
    obtain ⟨y, hy, rfl⟩ := List.mem_map.mp hq
    exact ⟨hx, hy⟩
  · rintro ⟨h1, h2⟩
    exact ⟨q.1, h1, List.mem_map.mpr ⟨q.2, h2, rfl⟩⟩
theorem len_prd (xs ys : List Nat) : (prd xs ys).length = xs.length * ys.length := by
  unfold prd
  induction xs with
  | nil => simp
  | cons x xs ih => rw [List.flatMap_cons, List.length_append, ih, List.length_map, List.length_cons, Nat.succ_mul, Nat.add_comm]
/-- one part more in a row: em, all before have the empty word; he, this one has it -/
def gstep (b em he : Bool) (g h : G) : G :=
  if b then ⟨g.f ++ h.f, g.l ++ h.l, g.p ++ h.p⟩
  else ⟨g.f ++ (if em then h.f else []), h.l ++ (if he then g.l else []), g.p ++ h.p ++ prd g.l h.f⟩
def emn (b em he : Bool) : Bool := if b then em else em && he
mutual
def gath : Ex → Nat → G
  | .lf o, s => ⟨if o.isSome then [s] else [], if o.isSome then [s] else [], []⟩
  | .sg m e, s => ⟨(gath e s).f, (gath e s).l, (gath e s).p ++ (if m then prd (gath e s).l (gath e s).f else [])⟩
  | .ro b es, s => gathL b es s true ⟨[], [], []⟩
def gathL (b : Bool) : List Ex → Nat → Bool → G → G
  | [], _, _, g => g
  | e :: r, s, em, g => gathL b r (s + e.lets.length) (emn b em e.hasE) (gstep b em e.hasE g (gath e s))
end
structure L where
  n : Nat
  e : Bool
  f : List Nat
  l : List Nat
  p : List (Nat × Nat)
def lstep (b : Bool) (g h : L) : L :=
  if b then ⟨g.n + h.n, g.e || h.e, g.f ++ h.f, g.l ++ h.l, g.p ++ h.p⟩
  else ⟨g.n + h.n, g.e && h.e, if g.e then g.f ++ h.f else g.f, if h.e then g.l ++ h.l else h.l, g.p ++ h.p ++ prd g.l h.f⟩
mutual
def look : Ex → Nat → L
  | .lf o, s => ⟨o.toList.length, o.isNone, List.replicate o.toList.length s, List.replicate o.toList.length s, []⟩
  | .sg m e, s => ⟨(look e s).n, true, (look e s).f, (look e s).l, (look e s).p ++ (if m then prd (look e s).l (look e s).f else [])⟩
  | .ro b es, s => lookL b es s ⟨0, !b, [], [], []⟩
def lookL (b : Bool) : List Ex → Nat → L → L
  | [], _, g => g
  | e :: r, s, g => lookL b r s (lstep b g (look e (s + g.n)))
end
/-- the law's gathering and the program's say the same -/
structure Alike (g : G) (h : L) : Prop where
  f : h.f = g.f
  l : ∀ x, x ∈ h.l ↔ x ∈ g.l
  p : ∀ q, q ∈ h.p ↔ q ∈ g.p
  ll : h.l.length = g.l.length
  pl : h.p.length = g.p.length
theorem Alike.step {g g' : G} {h h' : L} {b em he : Bool} (a : Alike g h) (a' : Alike g' h') (e1 : b = false → h.e = em) (e2 : h'.e = he) : Alike (gstep b em he g g') (lstep b h h') := by
  unfold gstep lstep
  cases b with
  | true =>
    refine ⟨?_, fun x => ?_, fun q => ?_, ?_, ?_⟩
    · show h.f ++ h'.f = g.f ++ g'.f
      rw [a.f, a'.f]
    · show x ∈ h.l ++ h'.l ↔ x ∈ g.l ++ g'.l
      rw [List.mem_append, List.mem_append, a.l, a'.l]
    · show q ∈ h.p ++ h'.p ↔ q ∈ g.p ++ g'.p
      rw [List.mem_append, List.mem_append, a.p, a'.p]
    · show (h.l ++ h'.l).length = (g.l ++ g'.l).length
      rw [List.length_append, List.length_append, a.ll, a'.ll]
    · show (h.p ++ h'.p).length = (g.p ++ g'.p).length
      rw [List.length_append, List.length_append, a.pl, a'.pl]
  | false =>
    have e1 := e1 rfl
    refine ⟨?_, fun x => ?_, fun q => ?_, ?_, ?_⟩
    · show (if h.e then h.f ++ h'.f else h.f) = g.f ++ (if em then g'.f else [])
      rw [e1, a.f, a'.f]
      cases em
      · simp
      · simp
    · show x ∈ (if h'.e then h.l ++ h'.l else h'.l) ↔ x ∈ g'.l ++ (if he then g.l else [])
      rw [e2]
      cases he
      · simp [a'.l]
      · simp [a.l, a'.l, or_comm]
    · show q ∈ h.p ++ h'.p ++ prd h.l h'.f ↔ q ∈ g.p ++ g'.p ++ prd g.l g'.f
      rw [List.mem_append, List.mem_append, List.mem_append, List.mem_append, a.p, a'.p, mem_prd, mem_prd, a.l, a'.f]
    · show (if h'.e then h.l ++ h'.l else h'.l).length = (g'.l ++ (if he then g.l else [])).length
      have q1 := a.ll
      have q2 := a'.ll
      rw [e2, List.length_append]
      cases he
      · simp [q2]
      · simp [q1, q2, Nat.add_comm]
    · show (h.p ++ h'.p ++ prd h.l h'.f).length = (g.p ++ g'.p ++ prd g.l g'.f).length
      rw [List.length_append, List.length_append, List.length_append, List.length_append, len_prd, len_prd, a.pl, a'.pl, a.ll, a'.f]
mutual
theorem look_gath : ∀ (e : Ex) (s : Nat), (look e s).n = e.lets.length ∧ (look e s).e = e.hasE ∧ Alike (gath e s) (look e s)
  | .lf o, s => by
    refine ⟨rfl, rfl, ?_⟩
    cases o with
    | none => exact ⟨rfl, fun _ => Iff.rfl, fun _ => Iff.rfl, rfl, rfl⟩
    | some c => exact ⟨rfl, fun _ => Iff.rfl, fun _ => Iff.rfl, rfl, rfl⟩
  | .sg m e, s => by
    obtain ⟨h1, h2, h3⟩ := look_gath e s
    refine ⟨h1, rfl, ⟨h3.f, h3.l, fun q => ?_, h3.ll, ?_⟩⟩
    · show q ∈ (look e s).p ++ (if m then prd (look e s).l (look e s).f else []) ↔ q ∈ (gath e s).p ++ (if m then prd (gath e s).l (gath e s).f else [])
      rw [List.mem_append, List.mem_append, h3.p]
      cases m
      · exact Iff.rfl
      · simp only [if_true, mem_prd, h3.l, h3.f]
    · show ((look e s).p ++ (if m then prd (look e s).l (look e s).f else [])).length = ((gath e s).p ++ (if m then prd (gath e s).l (gath e s).f else [])).length
      rw [List.length_append, List.length_append, h3.pl]
      cases m
      · rfl
      · simp only [if_true, len_prd, h3.ll, h3.f]
  | .ro b es, s => by
    obtain ⟨h1, h2, h3⟩ := lookL_gath b es s ⟨0, !b, [], [], []⟩ true ⟨[], [], []⟩ ⟨rfl, fun _ => Iff.rfl, fun _ => Iff.rfl, rfl, rfl⟩ (fun e => by rw [e]; rfl)
    refine ⟨?_, ?_, h3⟩
    · show (lookL b es s ⟨0, !b, [], [], []⟩).n = (letsL es).length
      rw [h1]
      exact Nat.zero_add _
    · show (lookL b es s ⟨0, !b, [], [], []⟩).e = if b then anyE es else allE es
      rw [h2]
      cases b <;> simp
theorem lookL_gath : ∀ (b : Bool) (es : List Ex) (s : Nat) (h : L) (em : Bool) (g : G), Alike g h → (b = false → h.e = em) →
    (lookL b es s h).n = h.n + (letsL es).length ∧ (lookL b es s h).e = (if b then h.e || anyE es else h.e && allE es) ∧ Alike (gathL b es (s + h.n) em g) (lookL b es s h)
  | b, [], s, h, em, g, a, he => by
    refine ⟨rfl, ?_, a⟩
    show h.e = _
    cases b <;> simp [anyE, allE]
  | b, e :: r, s, h, em, g, a, he => by
    obtain ⟨h1, h2, h3⟩ := look_gath e (s + h.n)
    have st := a.step h3 (b := b) (em := em) (he := e.hasE) he h2
    have n1 : (lstep b h (look e (s + h.n))).n = h.n + e.lets.length := by
      unfold lstep
      rw [← h1]
      cases b <;> rfl
    have e1 : (lstep b h (look e (s + h.n))).e = if b then h.e || e.hasE else h.e && e.hasE := by
      unfold lstep
      rw [← h2]
      cases b <;> rfl
    obtain ⟨i1, i2, i3⟩ := lookL_gath b r s (lstep b h (look e (s + h.n))) (emn b em e.hasE) (gstep b em e.hasE g (gath e (s + h.n))) st (fun z => by
      rw [e1, z]
      unfold emn
      simp [he z])
    refine ⟨?_, ?_, ?_⟩
    · show (lookL b r s (lstep b h (look e (s + h.n)))).n = h.n + (e.lets ++ letsL r).length
      rw [i1, n1, List.length_append]
      omega
    · show (lookL b r s (lstep b h (look e (s + h.n)))).e = _
      rw [i2, e1]
      cases b <;> simp [anyE, allE, Bool.or_assoc, Bool.and_assoc]
    · show Alike (gathL b r (s + h.n + e.lets.length) (emn b em e.hasE) (gstep b em e.hasE g (gath e (s + h.n)))) (lookL b r s (lstep b h (look e (s + h.n))))
      rw [n1, ← Nat.add_assoc] at i3
      exact i3
end

/-! ### the places lie in range; lengths -/
/-- all that is gathered lies in [s, t), the lists are not long (m: the bound for the pairs) -/
structure Within (s t m : Nat) (g : G) : Prop where
  f : ∀ x ∈ g.f, s ≤ x ∧ x < t
  l : ∀ x ∈ g.l, s ≤ x ∧ x < t
  p : ∀ q ∈ g.p, (s ≤ q.1 ∧ q.1 < t) ∧ (s ≤ q.2 ∧ q.2 < t)
  fl : g.f.length ≤ t - s
  ll : g.l.length ≤ t - s
  pl : g.p.length ≤ m
theorem Within.step {s t u D : Nat} {g h : G} {b em he : Bool} (hst : s ≤ t) (htu : t ≤ u) (a : Within s t ((t - s) * (t - s) * D) g) (c : Within t u ((u - t) * (u - t) * D) h) (hD : 1 ≤ D) :
    Within s u ((u - s) * (u - s) * D) (gstep b em he g h) := by
  have e : u - s = (t - s) + (u - t) := by omega
  have big : (t - s) * (t - s) * D + (u - t) * (u - t) * D + (t - s) * (u - t) ≤ (u - s) * (u - s) * D := by
    rw [e]
    generalize t - s = x
    generalize u - t = y
    have h1 : (x + y) * (x + y) * D = x * x * D + y * y * D + (x * y * D + x * y * D) := by
      rw [Nat.add_mul, Nat.mul_add, Nat.mul_add, Nat.mul_comm y x, Nat.add_mul, Nat.add_mul, Nat.add_mul]
      omega
    have h2 : x * y ≤ x * y * D := Nat.le_mul_of_pos_right _ hD
    omega
  have cr : g.l.length * h.f.length ≤ (t - s) * (u - t) := Nat.mul_le_mul a.ll c.fl
  unfold gstep
  cases b with
  | true =>
    refine ⟨fun x hx => ?_, fun x hx => ?_, fun q hq => ?_, ?_, ?_, ?_⟩
    · rcases List.mem_append.mp hx with z | z
      · have := a.f x z; omega
      · have := c.f x z; omega
    · rcases List.mem_append.mp hx with z | z
      · have := a.l x z; omega
      · have := c.l x z; omega
    · rcases List.mem_append.mp hq with z | z
      · have := a.p q z; omega
      · have := c.p q z; omega
    · have := a.fl; have := c.fl
      show (g.f ++ h.f).length ≤ _
      rw [List.length_append]; omega
    · have := a.ll; have := c.ll
      show (g.l ++ h.l).length ≤ _
      rw [List.length_append]; omega
    · have := a.pl; have := c.pl
      show (g.p ++ h.p).length ≤ _
      rw [List.length_append]; omega
  | false =>
    refine ⟨fun x hx => ?_, fun x hx => ?_, fun q hq => ?_, ?_, ?_, ?_⟩
    · rcases List.mem_append.mp hx with z | z
      · have := a.f x z; omega
      · have z' : x ∈ h.f := by cases em <;> simp_all
        have := c.f x z'; omega
    · rcases List.mem_append.mp hx with z | z
      · have := c.l x z; omega
      · have z' : x ∈ g.l := by cases he <;> simp_all
        have := a.l x z'; omega
    · rcases List.mem_append.mp hq with z | z
      · rcases List.mem_append.mp z with z | z
        · have := a.p q z; omega
        · have := c.p q z; omega
      · obtain ⟨z1, z2⟩ := mem_prd.mp z
        have := a.l _ z1; have := c.f _ z2; omega
    · have := a.fl; have := c.fl
      show (g.f ++ (if em then h.f else [])).length ≤ _
      rw [List.length_append]
      cases em <;> simp <;> omega
    · have := a.ll; have := c.ll
      show (h.l ++ (if he then g.l else [])).length ≤ _
      rw [List.length_append]
      cases he <;> simp <;> omega
    · have := a.pl; have := c.pl
      show (g.p ++ h.p ++ prd g.l h.f).length ≤ _
      rw [List.length_append, List.length_append, len_prd]; omega
theorem Within.mono {s t m m' : Nat} {g : G} (a : Within s t m g) (h : m ≤ m') : Within s t m' g := ⟨a.f, a.l, a.p, a.fl, a.ll, Nat.le_trans a.pl h⟩
theorem gathL_within {d : Nat} (ih : ∀ (o : Option Bool) (e : Ex), Good d o e → ∀ s, Within s (s + e.lets.length) (e.lets.length * e.lets.length * (d + 1)) (gath e s)) (b : Bool) (s : Nat) :
    ∀ (es : List Ex) (t : Nat) (em : Bool) (g : G), s ≤ t → (∀ e ∈ es, Good d (some b) e) → Within s t ((t - s) * (t - s) * (d + 1)) g →
      Within s (t + (letsL es).length) ((t + (letsL es).length - s) * (t + (letsL es).length - s) * (d + 1)) (gathL b es t em g)
  | [], t, em, g, _, _, a => a
  | e :: r, t, em, g, hst, hg, a => by
    have c := ih (some b) e (hg e List.mem_cons_self) t
    have q : t + e.lets.length - t = e.lets.length := by omega
    have st := Within.step (b := b) (em := em) (he := e.hasE) hst (Nat.le_add_right t e.lets.length) a (by rw [q]; exact c) (Nat.succ_pos d)
    have w := gathL_within ih b s r (t + e.lets.length) (emn b em e.hasE) _ (by omega) (fun e' he' => hg e' (List.mem_cons_of_mem _ he')) st
    have en : t + (letsL (e :: r)).length = t + e.lets.length + (letsL r).length := by
      rw [letsL, List.length_append]; omega
    rw [en]
    exact w
theorem gath_within : ∀ (d : Nat) (o : Option Bool) (e : Ex), Good d o e → ∀ s, Within s (s + e.lets.length) (e.lets.length * e.lets.length * (d + 1)) (gath e s)
  | d, o, .lf x, _, s => by
    cases x with
    | none => exact ⟨fun _ h => (nomatch h), fun _ h => (nomatch h), fun _ h => (nomatch h), Nat.zero_le _, Nat.zero_le _, Nat.zero_le _⟩
    | some c =>
      have q : ∀ x ∈ [s], s ≤ x ∧ x < s + 1 := fun x hx => by
        rw [List.mem_singleton] at hx
        omega
      have ln : (Ex.lf (some c)).lets.length = 1 := rfl
      rw [ln]
      exact ⟨q, q, fun _ h => (nomatch h), (by show 1 ≤ s + 1 - s; omega), (by show 1 ≤ s + 1 - s; omega), Nat.zero_le _⟩
  | 0, o, .sg m e, h, s => h.elim
  | 0, o, .ro b es, h, s => h.elim
  | d + 1, o, .sg m e, h, s => by
    have w := gath_within d none e h s
    have hl : (Ex.sg m e).lets = e.lets := rfl
    rw [hl]
    have cr : (gath e s).l.length * (gath e s).f.length ≤ e.lets.length * e.lets.length := Nat.mul_le_mul (by have := w.ll; omega) (by have := w.fl; omega)
    refine ⟨w.f, w.l, fun q hq => ?_, w.fl, w.ll, ?_⟩
    · rcases List.mem_append.mp hq with z | z
      · exact w.p q z
      · have z' : q ∈ prd (gath e s).l (gath e s).f := by cases m <;> simp_all
        obtain ⟨z1, z2⟩ := mem_prd.mp z'
        exact ⟨w.l _ z1, w.f _ z2⟩
    · show ((gath e s).p ++ (if m then prd (gath e s).l (gath e s).f else [])).length ≤ _
      rw [List.length_append, Nat.mul_succ]
      have := w.pl
      have l2 : (if m then prd (gath e s).l (gath e s).f else []).length ≤ e.lets.length * e.lets.length := by
        cases m
        · exact Nat.zero_le _
        · simp only [if_true, len_prd]; exact cr
      omega
  | d + 1, o, .ro b es, h, s => by
    have w := gathL_within (gath_within d) b s es s true ⟨[], [], []⟩ (Nat.le_refl _) h.2.2.2 ⟨fun _ h => (nomatch h), fun _ h => (nomatch h), fun _ h => (nomatch h), Nat.zero_le _, Nat.zero_le _, Nat.zero_le _⟩
    have q : s + (letsL es).length - s = (letsL es).length := by omega
    rw [q] at w
    exact w.mono (Nat.mul_le_mul_left _ (by omega))
/-! ### lists only grow along a row -/
theorem gathL_grows (b : Bool) : ∀ (es : List Ex) (t : Nat) (em : Bool) (g : G), g.p.length ≤ (gathL b es t em g).p.length
  | [], _, _, _ => Nat.le_refl _
  | e :: r, t, em, g => by
    refine Nat.le_trans ?_ (gathL_grows b r _ _ _)
    unfold gstep
    cases b
    · show g.p.length ≤ (g.p ++ _ ++ _).length
      rw [List.length_append, List.length_append]; omega
    · show g.p.length ≤ (g.p ++ _).length
      rw [List.length_append]; omega
end K65
end

section
set_option Elab.async false
set_option linter.all false
set_option maxRecDepth 100000
/-! Words of this proof over the hand layer: the text by places, globals, isinstance, items, lengths. -/
namespace K65
open PySem L2

def top (i : Nat) : Stmt := PySem.Challenge.pw_nodoubt_k65_whole_colors.main.body.getD i (.Pass ⟨0, 0, 0, 0⟩)

/-! ### globals -/
structure GC (mg : Str → Option Value) (x : Str) (v : V) : Prop where
  ex : ∃ u, mg x = some u ∧ RelV v u
structure GT (K : PySem.W.Frag) (mg : Str → Option Value) (x : Str) (vs : List V) : Prop where
  ex : ∃ a, mg x = some (.ref a) ∧ ∀ H, SqT K H a vs
def tGT (K : PySem.W.Frag) (vs : List V) : TE := fun _ H Q => ∀ a, (∀ H', SqT K H' a vs) → Q (.ref a) H
section
variable {X : Cx}
theorem pe_gc {x : Str} {v : V} {pos : Pos} (g : GC X.mg x v) (hg : Gl X x) (hd : (x == ("__debug__" : Str)) = false := by decide) : PE X (.Name x pos) (tC v) := by
  obtain ⟨u, h, r⟩ := g.ex
  exact pe_glob hg h r hd
theorem pe_gt {x : Str} {vs : List V} {pos : Pos} (g : GT X.K X.mg x vs) (hg : Gl X x) (hd : (x == ("__debug__" : Str)) = false := by decide) : PE X (.Name x pos) (tGT X.K vs) := by
  obtain ⟨a, h, q⟩ := g.ex
  exact ⟨fun pins s σ H Q I hw => (pe_glob (v := .ref a) hg h rfl hd).run pins s σ H Q I (hw a q)⟩

/-! ### isinstance -/
inductive Knd (H : Hp) : V → String → Prop where
  | non : Knd H .non "NoneType"
  | bl (b : Bool) : Knd H (.bl b) "bool"
  | int (i : Int) : Knd H (.int i) "int"
  | str (z : Str) : Knd H (.str z) "str"
  | tup {a : Addr} {xs : List V} (e : H a = some (.tup xs)) : Knd H (.ref a) "tuple"
  | lst {a : Addr} {xs : List V} (e : H a = some (.lst xs)) : Knd H (.ref a) "list"
theorem Knd.ty {K : PySem.W.Frag} {H : Hp} {x : V} {n : String} (k : Knd H x n) : TyX K H x (.type n) := by
  cases k with
  | non => exact .base .non
  | bl b => exact .base (.bl b)
  | int i => exact .base (.int i)
  | str z => exact .base (.str z)
  | tup e => exact .base (.tup e)
  | lst e => exact .base (.lst e)
def rIsk : List V → Hp → VK → Prop := fun xs H Q => ∃ (x : V) (T n : String) (b : Bool), xs = [x, .ty T] ∧ Knd H x n ∧ kitB n T = some b ∧ Q (.bl b) H
theorem call_isk : CallR X (.builtin "isinstance") rIsk := by
  intro pins s σ H xs us Q I r h
  obtain ⟨x, T, n, b, rfl, k, e, q⟩ := h
  exact call_isi pins s σ H _ us Q I r ⟨x, _, _, _, b, rfl, .ty T, k.ty, kit_ty e, q⟩

/-! ### items and lengths of tracked tuples, lists, texts -/
theorem atN {α : Type} {xs : List α} {i : Nat} {v : α} (h : xs[i]? = some v) : atI xs (i : Int) = some v := by
  have hlt : i < xs.length := (List.getElem?_eq_some_iff.mp h).1
  unfold atI ixN
  rw [if_pos (Int.natCast_nonneg i), if_pos (by exact_mod_cast hlt)]
  exact h
def rItU : R2 := fun x y H Q => ∃ (p : Addr) (xs : List V) (i : Nat) (v : V), x = .ref p ∧ y = .int (i : Int) ∧ H p = some (.tup xs) ∧ xs[i]? = some v ∧ Q v H
theorem it_tup : IxR X rItU := by
  intro a b pins s σ H x y v u Q I rx ry h
  obtain ⟨p, xs, i, z, rfl, rfl, hp, hz, q⟩ := h
  exact ix_tup a b pins s σ H _ _ v u Q I rx ry ⟨p, xs, _, z, rfl, rfl, SqT.of hp, atN hz, q⟩
def rItL : R2 := fun x y H Q => ∃ (p : Addr) (xs : List V) (i : Nat) (v : V), x = .ref p ∧ y = .int (i : Int) ∧ H p = some (.lst xs) ∧ xs[i]? = some v ∧ Q v H
theorem it_list : IxR X rItL := by
  intro a b pins s σ H x y v u Q I rx ry h
  obtain ⟨p, xs, i, z, rfl, rfl, hp, hz, q⟩ := h
  exact ix_list a b pins s σ H _ _ v u Q I rx ry ⟨p, xs, _, z, rfl, rfl, SqL.of hp, atN hz, q⟩
def rItS : R2 := fun x y H Q => ∃ (z : Str) (i c : Nat), x = .str z ∧ y = .int (i : Int) ∧ z.length ≤ sizeLine ∧ z.cps.toList[i]? = some c ∧ Q (.str ⟨#[c]⟩) H
theorem it_str : IxR X rItS := by
  intro a b pins s σ H x y v u Q I rx ry h
  obtain ⟨z, i, c, rfl, rfl, hl, hz, q⟩ := h
  exact ix_str a b pins s σ H _ _ v u Q I rx ry ⟨z, _, c, rfl, rfl, hl, atN hz, q⟩
def rItA : R2 := fun x y H Q => rItU x y H Q ∨ rItL x y H Q
theorem it_any : IxR X rItA := by
  intro a b pins s σ H x y v u Q I rx ry h
  rcases h with h | h
  · exact it_tup a b pins s σ H x y v u Q I rx ry h
  · exact it_list a b pins s σ H x y v u Q I rx ry h
/-- what stands at a tracked address, list or tuple -/
def Sq (H : Hp) (p : Addr) (xs : List V) : Prop := H p = some (.lst xs) ∨ H p = some (.tup xs)
def rLen : List V → Hp → VK → Prop := fun vs H Q => ∃ (p : Addr) (xs : List V), vs = [.ref p] ∧ Sq H p xs ∧ Q (.int (xs.length : Int)) H
theorem call_len2 : CallR X (.builtin "len") rLen := by
  intro pins s σ H xs us Q I r h
  obtain ⟨p, ys, rfl, hs, q⟩ := h
  exact call_len_seq pins s σ H _ us Q I r ⟨p, ys, rfl, hs.elim (fun h => .inl (SqL.of h)) (fun h => .inr (SqT.of h)), q⟩
/-- list(xs), tuple(xs) of what is tracked: a new one -/
def rListOf : List V → Hp → VK → Prop := fun vs H Q => ∃ (p : Addr) (xs : List V), vs = [.ref p] ∧ Sq H p xs ∧ ∀ l, H l = none → Q (.ref l) (upd H l (.lst xs))
theorem call_list2 : CallR X (.type "list") rListOf := by
  intro pins s σ H xs us Q I r h
  obtain ⟨p, ys, rfl, hs, q⟩ := h
  exact call_list_of pins s σ H _ us Q I r ⟨p, ys, rfl, hs.elim (fun h => .inl (SqL.of h)) (fun h => .inr (SqT.of h)), q⟩
def rTupOf : List V → Hp → VK → Prop := fun vs H Q => ∃ (p : Addr) (xs : List V), vs = [.ref p] ∧ H p = some (.lst xs) ∧ ∀ l, H l = none → Q (.ref l) (upd H l (.tup xs))
theorem call_tuple2 : CallR X (.type "tuple") rTupOf := by
  intro pins s σ H xs us Q I r h
  obtain ⟨p, ys, rfl, hs, q⟩ := h
  exact call_tuple_of pins s σ H _ us Q I r ⟨p, ys, rfl, .inl ⟨SqL.of hs, q⟩⟩
end

/-! ### rules without the written part K: for blocks within blocks -/
section
variable {X : Cx}
def iL (tl : TE) : TI := fun σ H R => tl σ H fun x H1 => ∃ (a : Addr) (xs : List V), x = .ref a ∧ H1 a = some (.lst xs) ∧ ∀ K, R (Itl K a) H1
def iU (tl : TE) : TI := fun σ H R => tl σ H fun x H1 => ∃ (a : Addr) (xs : List V), x = .ref a ∧ H1 a = some (.tup xs) ∧ ∀ K, R (Itt K a) H1
theorem pe_more {e : Expr} {t : TE} (h : PE X e t) : PE X e (fun σ H Q => ∃ Q0 : VK, t σ H Q0 ∧ ∀ x H1, Q0 x H1 → Q x H1) := by
  refine ⟨fun pins s σ H Q I q => ?_⟩
  obtain ⟨Q0, q0, z⟩ := q
  exact thn (h.run pins s σ H Q0 I q0) fun u s1 ⟨x, H1, I1, r1, q1⟩ => ⟨x, H1, I1, r1, z x H1 q1⟩
theorem pi_L {tg l : Expr} {tl : TE} (hl : PE X l tl) : PI X tg l (iL tl) := by
  refine ⟨fun pins s σ H R I h => (pi_list (tg := tg) (pe_more hl)).run pins s σ H R I ⟨_, h, fun x H1 q => ?_⟩⟩
  obtain ⟨a, xs, e, ha, q⟩ := q
  exact ⟨a, e, ⟨xs, SqL.of ha⟩, q _⟩
theorem pi_U {tg l : Expr} {tl : TE} (hl : PE X l tl) : PI X tg l (iU tl) := by
  refine ⟨fun pins s σ H R I h => (pi_tup (tg := tg) (pe_more hl)).run pins s σ H R I ⟨_, h, fun x H1 q => ?_⟩⟩
  obtain ⟨a, xs, e, ha, q⟩ := q
  exact ⟨a, e, ⟨xs, SqT.of ha⟩, q _⟩
def gU (n : Nat) (t : TGs) : TG := fun v σ H Q => ∃ (a : Addr) (xs : List V), v = .ref a ∧ H a = some (.tup xs) ∧ xs.length = n ∧ t xs σ H Q
theorem pg_U {es : List Expr} {k n : Nat} {pos : Pos} {t : TGs} (hc : X.calm = true) (h : PGs X es t)
    (hn : (assignEach es X.env).length = n := by rfl) (hst : (assignEach es X.env).findIdx? (·.1) = none := by rfl) : PG X (.Tuple es k pos) (gU n t) := by
  refine ⟨fun pins s σ H v u Q I r hw => (pg_tup hc h hn hst).run pins s σ H v u Q I r ?_⟩
  obtain ⟨a, xs, e, ha, hl, q⟩ := hw
  exact ⟨a, xs, e, SqT.of ha, hl, q⟩
/-- truth of what is tracked -/
def Trw (x : V) (H : Hp) (k : Bool) : Prop :=
  match x with
  | .str y => y.length ≤ sizeLine ∧ k = ((y.length : Int) != 0)
  | .ref p => ∃ xs, Sq H p xs ∧ k = !xs.isEmpty
  | _ => False
theorem Trw.of {K : PySem.W.Frag} {x : V} {H : Hp} {k : Bool} (h : Trw x H k) : TruV K x H k := by
  cases x with
  | str y => exact h
  | ref p =>
    obtain ⟨xs, hs, e⟩ := h
    rcases hs with hs | hs
    · exact .inl ⟨xs, SqL.of hs, e⟩
    · exact .inr (.inl ⟨xs, SqT.of hs, e⟩)
  | _ => exact False.elim h
theorem pt_tru {a : Expr} {ta : TE} (ha : PE X a ta) (he : ∀ whole, isTrue a X.env whole = (do let v ← whole; standAt a.pos; holding [v] (truthy v)) := by intro _; rfl) :
    PT X a (fun σ H Q => ta σ H fun x H' => ∃ k, Trw x H' k ∧ Q k H') := by
  refine ⟨fun pins s σ H Q I h => (pt_truth (pe_more ha) he).run pins s σ H Q I ⟨_, h, fun x H1 q => ?_⟩⟩
  obtain ⟨k, hk, q⟩ := q
  exact ⟨k, hk.of, q⟩
def rAll2 : List V → Hp → VK → Prop := fun vs H Q => ∃ (a : Addr) (bs : List Bool), vs = [V.ref a] ∧ H a = some (.lst (bs.map V.bl)) ∧ Q (.bl (bs.all id)) H
def rAny2 : List V → Hp → VK → Prop := fun vs H Q => ∃ (a : Addr) (bs : List Bool), vs = [V.ref a] ∧ H a = some (.lst (bs.map V.bl)) ∧ Q (.bl (bs.any id)) H
theorem cr_all2 (hc : X.calm = true) : CallR X (.builtin "all") rAll2 := by
  intro pins s σ H vs us Q I r h
  obtain ⟨a, bs, rfl, hs, q⟩ := h
  exact cr_all hc pins s σ H _ us Q I r ⟨a, bs, rfl, SqL.of hs, q⟩
theorem cr_any2 (hc : X.calm = true) : CallR X (.builtin "any") rAny2 := by
  intro pins s σ H vs us Q I r h
  obtain ⟨a, bs, rfl, hs, q⟩ := h
  exact cr_any hc pins s σ H _ us Q I r ⟨a, bs, rfl, SqL.of hs, q⟩
def rSum2 : List V → Hp → VK → Prop := fun vs H Q => ∃ (a : Addr) (ns : List Int), vs = [V.ref a] ∧ H a = some (.lst (ns.map V.int)) ∧ Q (.int ns.sum) H
theorem cr_sum2 (hc : X.calm = true) : CallR X (.builtin "sum") rSum2 := by
  intro pins s σ H vs us Q I r h
  obtain ⟨a, bs, rfl, hs, q⟩ := h
  exact cr_sum hc pins s σ H _ us Q I r ⟨a, bs, rfl, SqL.of hs, q⟩
def rMaxN : List V → Hp → VK → Prop := fun vs H Q => ∃ (a : Addr) (ns : List Int), vs = [V.ref a] ∧ H a = some (.lst (ns.map V.int)) ∧ 0 < ns.length ∧ ∀ m, m ∈ ns → (∀ y, y ∈ ns → y ≤ m) → Q (.int m) H
theorem cr_maxN (hc : X.calm = true) : CallR X (.builtin "max") rMaxN := by
  intro pins s σ H vs us Q I r h
  obtain ⟨a, bs, rfl, hs, hl, q⟩ := h
  exact cr_max hc pins s σ H _ us Q I r ⟨a, bs, rfl, SqL.of hs, hl, q⟩
def rSortP : List V → Hp → VK → Prop := fun vs H Q => ∃ (a : Addr) (xs : List V), vs = [V.ref a] ∧ H a = some (.lst xs) ∧ (∀ x ∈ xs, ∃ t i j, x = V.ref t ∧ H t = some (.tup [.int i, .int j])) ∧
  ∀ ys p, ys.Perm xs → H p = none → Q (.ref p) (upd H p (.lst ys))
theorem cr_sortP : CallR X (.builtin "sorted") rSortP := by
  intro pins s σ H vs us Q I r h
  obtain ⟨a, xs, rfl, hs, hx, q⟩ := h
  exact cr_sortedP pins s σ H _ us Q I r ⟨a, xs, rfl, SqL.of hs, hx, q⟩
/-- a number that is not negative, as a value -/
abbrev vN (n : Nat) : V := .int (n : Int)
/-- i in a tracked list of ints that are not negative -/
def rInN : R2 := fun x y H Q => ∃ (p : Addr) (l : List Nat) (n : Nat), x = .int (n : Int) ∧ y = .ref p ∧ H p = some (.lst (l.map vN)) ∧ Q (.bl (decide (n ∈ l))) H
theorem inV_nat (n : Nat) (l : List Nat) : inV (.int (n : Int)) (l.map vN) = decide (n ∈ l) := by
  unfold inV
  rw [List.any_map]
  apply Bool.eq_iff_iff.mpr
  rw [List.any_eq_true, decide_eq_true_iff]
  constructor
  · rintro ⟨m, hm, e⟩
    have e' : ((m : Int) == (n : Int)) = true := e
    have e2 : m = n := Int.ofNat.inj (beq_iff_eq.mp e')
    rw [← e2]
    exact hm
  · intro h
    exact ⟨n, h, (by show ((n : Int) == (n : Int)) = true; exact beq_self_eq_true _)⟩
theorem op_inN : OpR X (compareOp .In) rInN := by
  intro pins s σ H x y v u Q I rx ry h
  obtain ⟨p, l, n, rfl, rfl, hp, q⟩ := h
  refine op_in_seq pins s σ H _ _ v u Q I rx ry ⟨p, _, rfl, .inl (SqL.of hp), rfl, ?_, ?_⟩
  · rw [List.all_map, List.all_eq_true]
    intro m _
    rfl
  · rw [if_neg (by decide), inV_nat]
    exact q
/-- a text in a tracked list or tuple of texts -/
def rInT : R2 := fun x y H Q => ∃ (p : Addr) (l : List Str) (z : Str), x = .str z ∧ y = .ref p ∧ Sq H p (l.map V.str) ∧ Q (.bl (inV (.str z) (l.map V.str))) H
theorem op_inT : OpR X (compareOp .In) rInT := by
  intro pins s σ H x y v u Q I rx ry h
  obtain ⟨p, l, z, rfl, rfl, hp, q⟩ := h
  refine op_in_seq pins s σ H _ _ v u Q I rx ry ⟨p, _, rfl, hp.elim (fun h => .inl (SqL.of h)) (fun h => .inr (SqT.of h)), rfl, ?_, ?_⟩
  · rw [List.all_map, List.all_eq_true]
    intro m _
    rfl
  · rw [if_neg (by decide)]
    exact q
/-- t + u of tracked tuples -/
def rCat2 : R2 := fun x y H Q => ∃ (a b : Addr) (xs ys : List V), x = .ref a ∧ y = .ref b ∧ H a = some (.tup xs) ∧ H b = some (.tup ys) ∧ xs.length + ys.length ≤ sizeLine ∧
  ∀ p H', Same H H' → H' p = some (.tup (xs ++ ys)) → Q (.ref p) H'
theorem op_cat2 : OpR X (binaryOp .Add) rCat2 := by
  intro pins s σ H x y v u Q I rx ry h
  obtain ⟨a, b, xs, ys, rfl, rfl, ha, hb, hl, q⟩ := h
  refine op_catA pins s σ H _ _ v u Q I rx ry ⟨a, b, xs, ys, rfl, rfl, SqT.of ha, SqT.of hb, hl, fun e => ?_, fun _ e => ?_, fun _ _ p hp => ?_⟩
  · exact q b H (Same.refl H) (by rw [e]; exact hb)
  · exact q a H (Same.refl H) (by rw [e, List.append_nil]; exact ha)
  · exact q p _ (fun c o z => by rw [upd_ne (ne_of_none z hp)]; exact z) upd_same
/-- t[lo:hi] of a tracked tuple -/
def rSl2 : V → Option Int → Option Int → Hp → VK → Prop := fun x lo hi H Q => ∃ (a : Addr) (xs : List V), x = .ref a ∧ H a = some (.tup xs) ∧
  ∀ p H', Same H H' → H' p = some (.tup (cutV xs lo hi)) → Q (.ref p) H'
theorem cut_whole {xs : List V} {lo hi : Option Int} (h : HT.sIx xs.length 0 lo = 0 ∧ HT.sIx xs.length xs.length hi = xs.length) : cutV xs lo hi = xs := by
  unfold cutV
  rw [h.1, h.2]
  simp
theorem sl_tup2 : SlR X rSl2 := by
  intro pins s σ H x v vl vu lo hi sl Q I rx hs pl pu h
  obtain ⟨a, xs, rfl, ha, q⟩ := h
  refine sl_tupA pins s σ H _ v vl vu lo hi sl Q I rx hs pl pu ⟨a, xs, rfl, SqT.of ha, fun e => ?_, fun _ p hp => ?_⟩
  · exact q a H (Same.refl H) (by rw [cut_whole e]; exact ha)
  · exact q p _ (fun c o z => by rw [upd_ne (ne_of_none z hp)]; exact z) upd_same
end

/-! ### heaps -/
theorem same_new {H : Hp} {p : Addr} (h : H p = none) (o : HO) : Same H (upd H p o) := fun b u q => by rw [upd_ne (ne_of_none q h)]; exact q
theorem same_mut {H H' : Hp} {p : Addr} {o : HO} (e : Same H H') (h : H p = none) : Same H (upd H' p o) := fun b u q => by rw [upd_ne (ne_of_none q h)]; exact e b u q
theorem same_ne {H H' : Hp} (e : Same H H') {p q : Addr} {o : HO} (h : H p = some o) (hq : H' q = none) : p ≠ q := ne_of_none (e _ _ h) hq

/-! ### a def that may be called -/
structure Cd (P : Program) (w : World) (K : PySem.W.Frag) (mg : Str → Option Value) (base : Heap) (k : Nat) (x : Str) (ps : List Str) (sp : Sp) : Prop where
  ex : ∃ (f : Addr) (fd : FuncData), FnOk P w K mg base CX0 k f fd ps sp ∧ mg x = some (.ref f) ∧ PySem.W.keepIn K (.ref f) = true ∧ Binds K fd ps []
section
variable {X : Cx}
theorem pe_cd {k : Nat} {x : Str} {ps : List Str} {sp : Sp} {p pos : Pos} {e : Expr} {es : List Expr} {t : TA} (C : Cd X.prog X.w X.K X.mg X.base k x ps sp) (hr : Room k X.A) (hg : Gl X x) (ha : PA X (e :: es) t)
    (hdb : (x == ("__debug__" : Str)) = false := by decide) (he : starEach (e :: es) X.env = (false, eval e X.env) :: starEach es X.env := by rfl) (hpl : (backTo pos (starEach es X.env)).any (·.1) = false := by rfl) :
    PE X (.Call (.Name x p) (e :: es) [] pos) (tCall sp [] E0 t) := by
  obtain ⟨f, fd, F, hm, hk, hb⟩ := C.ex
  exact pe_call F hr hg hm hk hb .nil pass0 ha hdb he hpl
end
theorem Cd.mono {P : Program} {w : World} {K : PySem.W.Frag} {mg : Str → Option Value} {base : Heap} {j k : Nat} {x : Str} {ps : List Str} {sp : Sp} (C : Cd P w K mg base j x ps sp) (h : j ≤ k) : Cd P w K mg base k x ps sp := by
  obtain ⟨f, fd, F, r⟩ := C.ex
  exact ⟨f, fd, F.mono h, r⟩

/-! ### what the module's names hold -/
structure Txt (K : PySem.W.Frag) (mg : Str → Option Value) : Prop where
  z_len : mg "len" = none
  z_isinstance : mg "isinstance" = none
  z_all : mg "all" = none
  z_any : mg "any" = none
  z_sum : mg "sum" = none
  z_max : mg "max" = none
  z_min : mg "min" = none
  z_sorted : mg "sorted" = none
  z_abs : mg "abs" = none
  z_range : mg "range" = none
  z_tuple : mg "tuple" = none
  z_list : mg "list" = none
  z_int : mg "int" = none
  z_str : mg "str" = none
  z_bool : mg "bool" = none
  LETTERS : GC mg "LETTERS" (.str "abcd")
  MOST_LETTERS : GC mg "MOST_LETTERS" (.int 8)
  DEEPEST : GC mg "DEEPEST" (.int 6)
  MOST_PARTS : GC mg "MOST_PARTS" (.int 24)
  MOST_LONG_PARTS : GC mg "MOST_LONG_PARTS" (.int 200)
  MOST_COLORS : GC mg "MOST_COLORS" (.int 8)
  ROWS : GT K mg "ROWS" [.str "join", .str "or"]
  SINGLES : GT K mg "SINGLES" [.str "maybe", .str "many"]
end K65
end

section
set_option Elab.async false
set_option linter.all false
set_option maxRecDepth 100000
/-! Rules that the hand layer lacks: list(text), min of tuples, sorted(dict with tuple keys), dict comprehension with tuple keys. -/
namespace K65
open PySem PySem.Spec PyProof.Rows
section
variable {prog : Program} {w : World} {A : Around} {E : Value → Shared → Prop} {s : Shared}
theorem hintS {z : Str} {t : Tok} {Q : Bool → Shared → Prop} (q : Q false s) : wpAny (model prog w) A (Builtin.List.listLengthHint (.str z t)) Q E s := by
  have ty : s.TypeIs (.str z t) "str" := typeIs_str s z t
  unfold Builtin.List.listLengthHint
  refine wpAny_bind (wpAny_specialOf ty PySem.F.slot_str_len.lookup ?_)
  generalize eid : ("str.__len__" : String) = nm
  wp_delta
  rw [show splitId nm = some ("str", "__len__") from by subst eid; decide +kernel]
  subst eid
  refine wpAny_bind (wpAny_isInstance (T := "str") (b := true) ty (by rw [isSubtype_type]; kernel_rfl) ?_)
  refine wpAny_ite_split (fun no => absurd no (by decide)) (fun _ => wpAny_ite_split (fun _ => ?_) (fun no => absurd (by decide +kernel) no))
  exact wpAny_bind (wpAny_typeOf ty (wpAny_pure q))
theorem extendS {R : Result → Shared → Prop} (hh : A.handled = none) (z : Str) (t : Tok) (L : Addr) (res : Value) (n0 : Nat) (hL : s.heap.get? L = some { cls := .type "list", data := .seq #[] n0 })
    (hR : ∀ g tk acc n1, (∀ b o, b ≠ L → s.heap.get? b = some o → g.get? b = some o) → g.get? L = some { cls := .type "list", dict := none, data := .seq acc n1, slots := #[] } → ItemsOf (SignAt z) acc z.cps.size → R (.ok (.ret res)) { s with heap := g, toks := tk })
    (hz : z.cps.size ≤ sizeLine) : wpAny (model prog w) A.in1 (Builtin.List.listExtendWith (.ref L) (.str z t) res)
      (fun fin u => match fin with | .done f => R (.ok f) u | .again c => c.quiet = true ∧ codeAny (model prog w) A c R u) (fun e u => R (.error e) u) s := by
  have nI : L ≠ s.heap.objs.size := Nat.ne_of_lt (Heap.lt_size hL)
  have nf : L ∉ [s.heap.objs.size] := fun q => nI (List.mem_singleton.mp q)
  unfold Builtin.List.listExtendWith
  refine wpAny_bind (wpAny_typeOf (T := "str") (v := .str z t) (typeIs_str s z t) ?_)
  have k1 : Builtin.List.listSameRef (.ref L) (.str z t) = false := rfl
  have k2 : (Value.type "str" == Value.type "list") = false := by decide
  have k3 : (Value.type "str" == Value.type "tuple") = false := by decide
  simp only [k1, k2, k3, Bool.or_false, Bool.false_eq_true, if_false]
  refine wpAny_bind (wpAny_pyIter_str fun oI St W st => ?_)
  refine wpAny_bind (wpAny_holding (hintS ?_))
  rw [if_neg (by first | decide | decide +kernel)]
  refine wpAny_pure ⟨plainId_quiet PySem.F.plain_extend_loop _, codeAny_extend_loopS (W A.in1 hh).toS hz _ nf _ z.cps.size 0 _ _ _ rfl (Nat.zero_le _) st (Heap.get?_push_of_some _ hL) (ItemsOf.nil _) fun u acc n1 mv hu hacc => ?_⟩
  rw [Moved.eq_with mv]
  refine hR u.heap u.toks acc n1 (fun b ob hb e => mv.heap b ob (fun m => ?_) (Heap.get?_push_of_some _ e)) hu hacc
  rcases List.mem_cons.mp m with e1 | m
  · exact hb e1
  · exact absurd (Heap.lt_size e) (by rw [List.mem_singleton.mp m]; exact Nat.lt_irrefl _)
theorem initS {R : Result → Shared → Prop} (hh : A.handled = none) (z : Str) (t : Tok) (L : Addr) (hL : s.heap.get? L = some { cls := .type "list", data := .seq #[] })
    (hR : ∀ g tk acc n1, (∀ b o, b ≠ L → s.heap.get? b = some o → g.get? b = some o) → g.get? L = some { cls := .type "list", dict := none, data := .seq acc n1, slots := #[] } → ItemsOf (SignAt z) acc z.cps.size → R (.ok (.ret .none)) { s with heap := g, toks := tk })
    (hz : z.cps.size ≤ sizeLine) : wpAny (model prog w) A.in1 (Builtin.«list.__init__» ⟨[.ref L, .str z t], []⟩)
      (fun fin u => match fin with | .done f => R (.ok f) u | .again c => c.quiet = true ∧ codeAny (model prog w) A c R u) (fun e u => R (.error e) u) s := by
  show wpAny _ _ (do let was ← Builtin.List.listItems (.ref L); Builtin.List.listUpdate (.ref L) (fun _ => #[]); letGo was.toList.reverse; Builtin.List.listExtendWith (.ref L) (.str z t) .none) _ _ s
  refine wpAny_bind ?_
  unfold Builtin.List.listItems
  refine wpAny_bind (wpAny_seqItems hL rfl (wpAny_pure ?_))
  show wpAny _ _ (updateSeq L (fun _ => #[]) >>= fun _ => letGo (#[] : Array Value).toList.reverse >>= fun _ => Builtin.List.listExtendWith (.ref L) (.str z t) .none) _ _ s
  refine wpAny_bind (wpAny_updateSeq hL rfl ?_)
  have hL2 := Heap.get?_update_self (Obj.mapSeq (fun _ => (#[] : Array Value))) hL rfl
  have rest : ∀ b o, b ≠ L → s.heap.get? b = some o → (s.heap.update L (Obj.mapSeq (fun _ => (#[] : Array Value)))).get? b = some o := fun b o hb e => (Heap.get?_update_other _ _ (Ne.symm hb)).trans e
  exact wpAny_bind (wpAny_letGo (extendS hh z t L .none _ hL2 (fun g tk acc n1 kp hg hacc => hR g tk acc n1 (fun b o hb e => kp b o hb (rest b o hb e)) hg hacc) hz))
theorem listS {z : Str} {t : Tok} {Q : Value → Shared → Prop} (hh : A.handled = none) (hz : z.cps.size ≤ sizeLine)
    (hQ : ∀ g tk acc n1, (∀ b o, s.heap.get? b = some o → g.get? b = some o) → g.get? s.heap.objs.size = some { cls := .type "list", dict := none, data := .seq acc n1, slots := #[] } → ItemsOf (SignAt z) acc z.cps.size → Q (.ref s.heap.objs.size) { s with heap := g, toks := tk }) :
    wpAny (model prog w) A (call (.type "list") [.str z t]) Q E s := by
  refine callType_codes (Q₁ := fun ob u => ob = .ref s.heap.objs.size ∧ u = { s with heap := s.heap.push { cls := .type "list", data := .seq #[] } }) PySem.F.called_list (PySem.F.typeCall_list_1 _) PySem.F.entry_list_init (code_list_new _ ⟨rfl, rfl⟩) fun ob u q => ?_
  obtain ⟨rfl, rfl⟩ := q
  have hL : (s.heap.push { cls := .type "list", data := .seq #[] }).get? s.heap.objs.size = some { cls := .type "list", data := .seq #[] } := Heap.get?_push_size _ rfl
  exact ⟨⟨_, hL, rfl⟩, PySem.F.args_list_init_2 _ _, initS (A := A.in1) hh z t _ hL (fun g tk acc n1 kp hg hacc => ⟨rfl, hQ g tk acc n1 (fun b o e => kp b o (Nat.ne_of_lt (Heap.lt_size e)) (Heap.get?_push_of_some _ e)) hg hacc⟩) hz⟩
end
open L2
section
variable {X : Cx}
def rListS : List V → Hp → VK → Prop := fun vs H Q => ∃ z : Str, vs = [.str z] ∧ z.length ≤ 1000 ∧ ∀ l, H l = none → Q (.ref l) (upd H l (.lst (z.cps.toList.map fun c => V.str ⟨#[c]⟩)))
theorem call_listS (hc : X.calm = true) : CallR X (.type "list") rListS := by
  intro pins s σ H xs us Q I r h
  obtain ⟨z, rfl, hz, q⟩ := h
  obtain ⟨u, rfl, t, rfl⟩ := vals1 r
  have hz1 : z.cps.size ≤ 1000 := hz
  refine listS (I.ok.hd hc) (Nat.le_trans hz1 (by decide)) fun g tk acc n1 kp hg hi => ?_
  have hlen : (z.cps.toList.map fun c => V.str ⟨#[c]⟩).length = z.cps.size := by rw [List.length_map, Array.length_toList]
  have vs : Vals (z.cps.toList.map fun c => V.str ⟨#[c]⟩) acc.toList := vals_of_idx _ _ (by rw [hlen, Array.length_toList]; exact hi.1) fun j v hj => by
    obtain ⟨c, u, hcj, rfl⟩ := hi.2 j v (by rw [← hj, Array.getElem?_toList])
    exact ⟨.str ⟨#[c]⟩, by rw [List.getElem?_map, Array.getElem?_toList, hcj]; rfl, u, rfl⟩
  have hob : g.get? s.heap.objs.size = some { cls := .type "list", dict := none, data := .seq acc.toList.toArray n1, slots := #[] } := by rw [Array.toArray_toList]; exact hg
  exact ⟨.ref s.heap.objs.size, upd H s.heap.objs.size (.lst (z.cps.toList.map fun c => V.str ⟨#[c]⟩)), I.laid kp (Nat.le_refl _) ⟨by rw [hlen]; exact Nat.le_trans hz1 (by decide), acc.toList, n1, vs, hob⟩, rfl, q _ (I.hok.fresh (Nat.le_refl _))⟩
end
end K65
namespace K65
open PySem PySem.Spec PyProof.Rows L2
def tupD (ns : List Int) : PyData := .tuple (ns.map PyData.int)
theorem alike_ints : ∀ {a b : List Int}, a.length = b.length → PySem.W.alikeAll (a.map PyData.int) (b.map PyData.int) = true
  | [], [], _ => by simp only [List.map_nil, PySem.W.alikeAll]
  | [], _ :: _, h => by simp at h
  | _ :: _, [], h => by simp at h
  | x :: a, y :: b, h => by
    simp only [List.map_cons, PySem.W.alikeAll, PySem.W.alike, Bool.true_and]
    exact alike_ints (by simpa using h)
theorem depth_ints : ∀ a : List Int, PyData.depthAll (a.map PyData.int) = 0
  | [] => rfl
  | x :: a => by
    rw [List.map_cons, PyData.depthAll, depth_ints a]
    rfl
theorem depth_tups : ∀ l : List (List Int), PyData.depthAll (l.map tupD) ≤ 1
  | [] => Nat.zero_le _
  | a :: l => by
    rw [List.map_cons, PyData.depthAll]
    refine Nat.max_le.mpr ⟨?_, depth_tups l⟩
    show PyData.depthAll (a.map PyData.int) + 1 ≤ 1
    rw [depth_ints]
    exact Nat.le_refl _
section
variable {X : Cx}
theorem dp_ints {K : PySem.W.Frag} {H : Hp} : ∀ ns : List Int, DpAll K H (ns.map V.int) (ns.map PyData.int)
  | [] => .nil
  | n :: ns => .cons (.int n) (dp_ints ns)
def rMinT : List V → Hp → VK → Prop := fun vs H Q => ∃ (a : Addr) (xs : List V) (n : Nat), vs = [.ref a] ∧ H a = some (.lst xs) ∧ xs ≠ [] ∧ (∀ x ∈ xs, ∃ (p : Addr) (ns : List Int), x = .ref p ∧ H p = some (.tup (ns.map V.int)) ∧ ns.length = n) ∧ ∀ x, x ∈ xs → Q x H
theorem dp_tups {K : PySem.W.Frag} {H : Hp} {n : Nat} : ∀ xs : List V, (∀ x ∈ xs, ∃ (p : Addr) (ns : List Int), x = .ref p ∧ H p = some (.tup (ns.map V.int)) ∧ ns.length = n) → ∃ l : List (List Int), DpAll K H xs (l.map tupD) ∧ l.length = xs.length ∧ ∀ a ∈ l, a.length = n
  | [], _ => ⟨[], .nil, rfl, fun _ h => (nomatch h)⟩
  | x :: xs, h => by
    obtain ⟨p, ns, rfl, hp, hn⟩ := h x List.mem_cons_self
    obtain ⟨l, h1, h2, h3⟩ := dp_tups xs fun y hy => h y (List.mem_cons_of_mem _ hy)
    exact ⟨ns :: l, .cons (.tup (SqT.of hp) (dp_ints ns)) h1, by rw [List.length_cons, List.length_cons, h2], fun a ha => by
      rcases List.mem_cons.mp ha with rfl | ha
      · exact hn
      · exact h3 a ha⟩
theorem cr_minT (hc : X.calm = true) (hu : X.A.units + 64 < cLine) : CallR X (.builtin "min") rMinT := by
  intro pins s σ H vs us Q I r h
  obtain ⟨a, xs, n, rfl, ha, hne, hx, q⟩ := h
  rw [Vals.ref1 r]
  obtain ⟨its, rv, pl, _⟩ := I.list (SqL.of ha)
  obtain ⟨l, hd, hl, hn⟩ := dp_tups (K := X.K) xs hx
  have hlen := rv.length
  cases l with
  | nil => exact absurd (List.eq_nil_of_length_eq_zero hl.symm) hne
  | cons m ms =>
    obtain ⟨as, rs⟩ := Dp.readsAll I _ _ its hd rv
    have hdep := depth_tups (m :: ms)
    rw [List.map_cons] at hdep rs
    refine PySem.W.min_list_data (I.ok.hd hc) pl.isList (x := tupD m) (xs := ms.map tupD) (as := as) rs ⟨fun x hx y hy => ?_, fun x hx => ?_⟩ (by omega) fun i v g tk bs hv _ kp => ?_
    · rw [← List.map_cons] at hx hy
      obtain ⟨a1, h1, rfl⟩ := List.mem_map.mp hx
      obtain ⟨a2, h2, rfl⟩ := List.mem_map.mp hy
      show PySem.W.alike (.tuple _) (.tuple _) = true
      simp only [PySem.W.alike]
      exact alike_ints ((hn a1 h1).trans (hn a2 h2).symm)
    · rw [← List.map_cons] at hx
      obtain ⟨a1, h1, rfl⟩ := List.mem_map.mp hx
      exact fun z => (nomatch z)
    · have hv : its[i]? = some v := by simpa using hv
      have hi := (List.getElem?_eq_some_iff.mp hv).1
      have hx' : xs[i]? = some (xs[i]'(by omega)) := List.getElem?_eq_getElem _
      obtain ⟨u, hu1, hr⟩ := Vals.get rv hx'
      have e := Option.some.inj (hu1.symm.trans hv)
      subst e
      exact ⟨_, H, I.kept kp, hr, q _ (List.getElem_mem _)⟩
end
end K65
namespace K65
open PySem PySem.Spec PyProof.Rows L2
section
variable {X : Cx}
def rSortedDT : List V → Hp → VK → Prop := fun vs H Q => ∃ (d : Addr) (kvs : List (List Key × V)), vs = [.ref d] ∧ Rd H d (.dT kvs) ∧ (∀ e ∈ kvs, ∃ i j : Int, e.1 = [.inl i, .inl j]) ∧
  ∀ p bs bs', H p = none → IsKeys H kvs bs → List.Perm bs' bs → Q (.ref p) (upd H p (.lst (bs'.map V.ref)))
def adV : Value → Addr
  | .ref a => a
  | _ => 0
theorem unref {out : List Value} {bs : List Addr} (h : out.Perm (bs.map Value.ref)) : out = (out.map adV).map Value.ref ∧ (out.map adV).Perm bs := by
  constructor
  · rw [List.map_map]
    refine (List.map_id out).symm.trans (List.map_congr_left fun v hv => ?_)
    obtain ⟨b, _, rfl⟩ := List.mem_map.mp (h.mem_iff.mp hv)
    rfl
  · have e : (bs.map Value.ref).map adV = bs := by
      rw [List.map_map]
      exact List.map_id bs
    have k := h.map adV
    rw [e] at k
    exact k
theorem key_pair {H : Hp} : ∀ {kvs : List (List Key × V)} {bs : List Addr}, IsKeys H kvs bs → (∀ e ∈ kvs, ∃ i j : Int, e.1 = [.inl i, .inl j]) → ∀ b ∈ bs, ∃ i j : Int, H b = some (.tup [.int i, .int j])
  | _, _, .nil, _, b, hb => (nomatch hb)
  | _, _, .cons (a := e) h t, hk, b, hb => by
    rcases List.mem_cons.mp hb with rfl | hb
    · obtain ⟨i, j, hij⟩ := hk e List.mem_cons_self
      rw [hij] at h
      exact ⟨i, j, h⟩
    · exact key_pair t (fun e he => hk e (List.mem_cons_of_mem _ he)) b hb
theorem cr_sortedDT (hc : X.calm = true) (hu : X.A.units + 64 < cLine) : CallR X (.builtin "sorted") rSortedDT := by
  intro pins s σ H xs us Q I r h
  obtain ⟨d, kvs, rfl, hd, hkey, q⟩ := h
  obtain ⟨u, rfl, rx⟩ := vals1 r
  cases rx
  obtain ⟨z, lo, ks, pr, o, es, ep, ho, hx, hdat, he, hn⟩ := (show ObjOk X.prog X.w H s.heap d (.dT kvs) from hd.ok I.hok)
  have l1 : es.size = ks.length := size_of_entries he
  have l2 : kvs.length = ks.length := Paired.length pr
  have hes : es.size ≤ sizeLine := by omega
  refine Calls.call_function_entry kind_sorted plain_sorted entry_sorted (args_sorted1 _) ?_
  unfold Builtin.«sorted»
  refine wpAny_bind (m := checkCount "sorted" 1 1 _) (wpAny_pure ?_)
  refine wpAny_bind (PySem.W.kdu_collect (A := X.A.in1) (kdl_raw lo hx hdat) (I.ok.hd hc) ho hes fun g tk acc kp it => ?_)
  have ea : acc.toList = (ks.map fun x => x.2.1).map Value.ref := by
    have hl : acc.toList.length = ks.length := by rw [Array.length_toList, it.1]; exact l1
    apply List.ext_getElem?
    intro j
    rw [List.getElem?_map, List.getElem?_map]
    cases hj : acc.toList[j]? with
    | none =>
      rw [List.getElem?_eq_none (by have h1 := List.getElem?_eq_none_iff.mp hj; omega)]
      rfl
    | some v =>
      obtain ⟨en, hen, hv⟩ := it.2 j v (by rw [← Array.getElem?_toList]; exact hj)
      have qe := entry_at he j
      rw [hen] at qe
      cases hb : ks[j]? with
      | none => rw [hb] at qe; cases (show some en = none from qe)
      | some b =>
        rw [hb] at qe
        rw [hv, (Option.some.inj qe : en = entryOfKey (tupleKind (mixKind X.prog X.w)) b)]
        rfl
  have hkeys := isKeys_of pr
  generalize (ks.map fun x => x.2.1) = bs at ea hkeys
  have hbl : acc.toList.length ≤ sizeLine := by rw [Array.length_toList, it.1]; exact hes
  have I1 : Inv X pins σ H { s with heap := g, toks := tk } := I.kept kp
  refine wpAny_bind (wpAny_newList ?_ hbl)
  have hoL : (g.push (seqObj "list" acc.toList.toArray 0)).get? g.objs.size = some (seqObj "list" acc.toList.toArray 0) := Heap.get?_push_size _ rfl
  show wpAny _ _ _ _ _ { s with heap := g.push (seqObj "list" acc.toList.toArray 0), toks := tk }
  refine wpAny_bind (wpAny_holding (wpAny_call_entry slot_list_sort ⟨_, hoL, rfl⟩ entry_list_sort
    (Srt.list_sort_any (s := { s with heap := g.push (seqObj "list" acc.toList.toArray 0), toks := tk }) hoL hbl (fun h2 => Srt.pairs_sortable (by omega) (fun v hv => ?_) fun ob e c => ?_) fun out hp => ⟨_, rfl, ?_⟩) (args_list_sort _)))
  · rw [ea] at hv
    obtain ⟨b, hb, rfl⟩ := List.mem_map.mp hv
    obtain ⟨i, j, hij⟩ := key_pair hkeys hkey b hb
    obtain ⟨_, its2, r2, ob, hob, hcl, n, hdt⟩ := I1.hok _ _ hij
    obtain ⟨u1, u2, rfl, ⟨t1, rfl⟩, ⟨t2, rfl⟩⟩ := vals2 r2
    exact ⟨i, j, b, ob, t1, t2, n, rfl, Heap.get?_push_of_some _ hob, hcl, hdt⟩
  · have e1 : some ob = some (seqObj "list" acc.toList.toArray 0) := e.symm.trans hoL
    cases e1
    exact absurd (Value.type.inj c) (by decide)
  · rw [ea] at hp
    obtain ⟨o1, o2⟩ := unref hp
    obtain ⟨n1, hn1⟩ := sortedHeap_at (vs := acc.toList) (out := out.toArray) hoL
    refine wpAny_pure ⟨_, rfl, .ref g.objs.size, upd H g.objs.size (.lst ((out.map adV).map V.ref)), I1.laid (t' := tk) (fun b w e => ?_) (Nat.le_refl _) (show ObjOk X.prog X.w _ _ _ (.lst ((out.map adV).map V.ref)) from ⟨?_, out, n1, ?_, ?_⟩), rfl, q _ bs _ (I1.hok.fresh (Nat.le_refl _)) hkeys o2⟩
    · have hb : b < g.objs.size := Heap.lt_size e
      rw [sortedHeap_old (Nat.ne_of_lt hb) (by rw [size_push']; exact Nat.lt_succ_of_lt hb)]
      exact Heap.get?_push_of_some _ e
    · rw [List.length_map, List.length_map, hp.length_eq, ← ea]
      exact hbl
    · have k := vals_refs (out.map adV)
      rw [← o1] at k
      exact k
    · exact hn1
end
end K65
namespace K65
open PySem PySem.Spec PyProof.Rows L2
theorem put_tup {X : Cx} {pins : List (Addr × Obj)} {σ : L2.St} {H : Hp} {s : Shared} {E : Value → Shared → Prop} {D b : Addr} {kvs : List (List Key × V)} {k : List Key} {v : V} {r : Value} {Q : Unit → Shared → Prop} (hu : X.A.units < cLine) (I : Inv X pins σ H s)
    (hD : H D = some (.dT kvs)) (hz : kvs.length < sizeLine) (hb : H b = some (.tup (k.map kV))) (rv : RelV v r) (q : ∀ t, Inv X pins σ (upd H D (.dT (putK kvs k v))) t → Q () t) : wpAny (model X.prog X.w) X.A (dictSet D (.ref b) r) Q E s := by
  obtain ⟨z, ns, ks, rel, old⟩ := dt_of I.hok hD
  have z1 : ks.length ≤ sizeLine := by rw [← Paired.length rel]; exact z
  have z2 : (putK kvs k v).length ≤ sizeLine := Nat.le_trans (length_putK kvs k v) hz
  refine wpAny_dictSet_heap (hsz := z1) hu (key_of I.hok hb) old fun g new sb => q _ ?_
  obtain ⟨ob, es, ep, e1, e2, e3, e4, _, e5⟩ := new
  exact d_write I (by rw [hD]; exact True.intro) sb ⟨ob, e1⟩ ⟨z2, ns, _, (rel.put k hb rv).keeps fun c ys ec => by rw [upd_ne (ne_of ec hD (fun y => nomatch y))]; exact ec, ob, es, ep, e1, e2, e3, e4, e5⟩
section
variable {X : Cx}
/-- {k: v for target in iter if ..}, keys tuples -/
def tDcT (wi : TI) (g : TG) (tt : TT) (tk tv : TE) (vs : List Nat) : TE := fun σ H Q => wi σ H fun J H1 => ∀ D, H1 D = none → ∃ W : Nat → Nat → Hp → Prop, (∃ m, W 0 m (upd H1 D (.dT []))) ∧ ∀ i m H, W i m H →
  (J.stop i H ∧ Q (.ref D) H) ∨ (J.go i H ∧ ∃ Nx : Hp → Prop, (∀ H', Nx H' → ∃ m', m' < m ∧ W (i + 1) m' H') ∧ ∀ x H', J.yld i H x H' → g x (wipe σ vs) H' fun σ2 H2 => wipe σ2 vs = wipe σ vs ∧ tt σ2 H2 fun b H3 =>
    if b = true then tk σ2 H3 fun y H4 => tv σ2 H4 fun z H5 => ∃ kvs k b, y = .ref b ∧ H5 b = some (.tup (k.map kV)) ∧ H5 D = some (.dT kvs) ∧ kvs.length < sizeLine ∧ Nx (upd H5 D (.dT (putK kvs k z))) else Nx H3)
theorem pe_dcT {kx vx tg iter : Expr} {ifs : List Expr} {scope : Scope} {own : List (Str × Nat)} {pos : Pos} {wi : TI} {g : TG} {tt : TT} {tk tv : TE} (hc : X.calm = true) (hu : X.A.units + 64 < cLine) (hN : X.N.Nodup) (hi : PI X tg iter wi) (ok : BlkOk X.N X.env.scope scope own)
    (hg : ∀ (s : Shared) (H : Hp) (C : Addr) (cl : List (Str × Addr)) (fp : List Addr), PG (X.blk s H scope (compEnvC scope cl C X.env) fp) tg g) (ht : ∀ (s : Shared) (H : Hp) (C : Addr) (cl : List (Str × Addr)) (fp : List Addr), PTs (X.blk s H scope (compEnvC scope cl C X.env) fp) ifs tt)
    (hk : ∀ (s : Shared) (H : Hp) (C : Addr) (cl : List (Str × Addr)) (fp : List Addr), PE (X.blk s H scope (compEnvC scope cl C X.env) fp) kx tk)
    (he : ∀ (s : Shared) (H : Hp) (C : Addr) (cl : List (Str × Addr)) (fp : List Addr), PE (X.blk s H scope (compEnvC scope cl C X.env) fp) vx tv) (hs : ∀ x, foldedSetIterable iter X.env x = pure x := by intro _; rfl) :
    PE X (.DictComp kx vx [⟨tg, iter, ifs, 0⟩] scope pos) (tDcT wi g tt tk tv (own.map (·.2))) := by
  refine ⟨fun pins s σ H Q I h => ?_⟩
  rw [arm_eval_DictComp]
  have clo : ∀ y ∈ scope.names, y.2 = .free → ∃ c, X.env.cells.lookup y.1 = some c := fun y hy e => I.ok.has _ (ok.free y hy e)
  -- the iterable, then the new dict
  refine wpAny_comprehension_free rfl hs (closure_ok clo) ok.kind (fun y hy e => by rw [ok.uniq y hy, e]) (thn (hi.run pins s σ H _ I h) fun _ _ hx => thn hx fun _ t hq => ?_)
  obtain ⟨it, fp, tn, J, Hi, rfl, Ii, T, sti, fpi, q⟩ := hq
  refine wpAny_newObj_type (newEnv_comp ?_)
  generalize eD : t.heap.objs.size = D
  have fresh : Hi D = none := Ii.hok.fresh (Nat.le_of_eq eD)
  obtain ⟨W, ⟨m0, w0⟩, turn⟩ := q D fresh
  generalize eu : ({ t with heap := t.heap.push { cls := .type "dict", data := .dict #[] } } : Shared) = u
  have hu' : u.heap = t.heap.push { cls := .type "dict", data := .dict #[] } := by rw [← eu]
  have Iu : Inv X pins σ (upd Hi D (.dT [])) u := by
    rw [← eu]
    exact Ii.laid (t' := t.toks) (fun _ _ e => Heap.get?_push_of_some _ e) (Nat.le_of_eq eD) (by rw [← eD]; exact dt_empty t.heap Ii.big)
  have old : ∀ b ∈ fp, b < t.heap.objs.size := fun b hb => by
    obtain ⟨_, e, _⟩ := T.obj _ _ sti b hb
    exact Heap.lt_size e
  have fpu : ∀ b ∈ fp, FpOk X pins (upd Hi D (.dT [])) b ∧ b < u.heap.objs.size := fun b hb => by
    have lt := old b hb
    exact ⟨⟨by rw [upd_ne (by rw [← eD]; exact Nat.ne_of_lt lt)]; exact (fpi b hb).1, (fpi b hb).2⟩, by rw [hu', Heap.size_push]; exact Nat.lt_succ_of_lt lt⟩
  have stu : tn 0 u.heap := T.keep _ _ _ sti fun _ _ _ e => by rw [hu']; exact Heap.get?_push_of_some _ e
  have Ib := block_start Iu ok hN fpu
  -- the block's parts
  have rg := hg u (upd Hi D (.dT [])) u.heap.objs.size (cellsFrom (u.heap.objs.size + 1) scope.names (cloFrom X.env.cells scope.names [])) fp
  have rt := ht u (upd Hi D (.dT [])) u.heap.objs.size (cellsFrom (u.heap.objs.size + 1) scope.names (cloFrom X.env.cells scope.names [])) fp
  have rk := hk u (upd Hi D (.dT [])) u.heap.objs.size (cellsFrom (u.heap.objs.size + 1) scope.names (cloFrom X.env.cells scope.names [])) fp
  have rv := he u (upd Hi D (.dT [])) u.heap.objs.size (cellsFrom (u.heap.objs.size + 1) scope.names (cloFrom X.env.cells scope.names [])) fp
  show codeAny _ _ (.compStart (.DictComp kx vx [⟨tg, iter, ifs, 0⟩] scope pos) 0 (.ref it) (.ref D) (compEnvC scope (cellsFrom (u.heap.objs.size + 1) scope.names (cloFrom X.env.cells scope.names [])) u.heap.objs.size X.env)) (compPost (model X.prog X.w) X.A X.xe _ _ (.ref D) u.heap.objs.size) { u with heap := pushCells (u.heap.push { cls := .type "dict", data := .dict #[] }) scope.names }
  have gone : ∀ b ∈ fp, (upd Hi D (.dT [])) b = none := fun b hb => (fpu b hb).1.1
  generalize ec : compEnvC scope (cellsFrom (u.heap.objs.size + 1) scope.names (cloFrom X.env.cells scope.names [])) u.heap.objs.size X.env = ce at Ib rg rt rk rv ⊢
  have eL : ce.locals = u.heap.objs.size := by subst ec; rfl
  generalize upd Hi D (.dT []) = Hu at Iu Ib rg rt rk rv w0 gone fpu
  generalize ev : ({ u with heap := pushCells (u.heap.push { cls := .type "dict", data := .dict #[] }) scope.names } : Shared) = v at Ib ⊢
  have stv : tn 0 v.heap := T.keep _ _ _ stu fun _ _ _ e => by rw [← ev]; exact pushCells_keeps _ _ _ _ (Heap.get?_push_of_some _ e)
  have still : ∀ {σ' : L2.St} {G : Hp} {y : Shared}, Inv (X.blk u Hu scope ce fp) [] σ' G y → (∀ b ∈ fp, G b = none) → ∀ b ∈ fp, FpOk (X.blk u Hu scope ce fp) [] G b := fun {σ' G y} Iy no b hb =>
    ⟨no b hb, (Iy.ok.exf b hb).1, Iy.ok.exfs b hb, .inl hb, fun x c e => (Iy.ok.exf b hb).2 x c e, fun p hp => (nomatch (show p ∈ ([] : List (Addr × Obj)) from hp))⟩
  refine (fun (loop : codeAny (model X.prog X.w) X.A (.compLoop (.DictComp kx vx [⟨tg, iter, ifs, 0⟩] scope pos) 0 (.ref it) (.ref D) ce) (compPost (model X.prog X.w) X.A X.xe _ _ (.ref D) u.heap.objs.size) v) => codeAny_compStart_dict loop (T.self X.A 0 _ _ _ stv loop)) ?_
  refine compLoop_anyD (fun n y => ∃ i G, Inv (X.blk u Hu scope ce fp) [] (wipe σ (own.map (·.2))) G y ∧ tn i y.heap ∧ (∀ b ∈ fp, G b = none) ∧ W i n G) ?_ m0 ⟨0, Hu, Ib, stv, gone, w0⟩
  rintro n y ⟨i, G, Iy, sty, goneY, wy⟩
  rcases turn i n G wy with ⟨stop, done⟩ | ⟨go, Nx, down, step⟩
  · -- the end: back in the def
    refine thnF (T.done (X.blk u Hu scope ce fp) rfl rfl rfl hc i [] y _ G (fun _ _ => False) Iy (still Iy goneY) sty stop) fun r y2 ⟨er, I2⟩ => ?_
    subst er
    have Iback : Inv X pins σ G y2 := Iu.call' (ch := fp) I2.os I2.base I2.hok I2.bare fun b hb => ⟨(fpu b hb).1.2.2.2.1, (fpu b hb).1.2.1, (fpu b hb).1.2.2.2.2.1, (fpu b hb).1.2.2.2.2.2⟩
    have free2 : G ce.locals = none := I2.free
    obtain ⟨m, ns, _⟩ := I2.loc
    have ns : y2.heap.Ns ce.locals m := ns
    rw [eL] at ns free2
    obtain ⟨a0, a1, a2, a3, a4, a5⟩ := Iu.fpOk (Nat.le_refl _) free2
    exact ⟨m, ns, fun g' sb => ⟨.ref D, G, Iback.turned (t' := y2.toks) (fun b o hb e => (sb.2 b hb).trans e) free2 a1 a3 a4 a5, rfl, done⟩⟩
  · -- a turn
    refine thnF (T.item (X.blk u Hu scope ce fp) rfl rfl rfl hc i [] y _ G (fun _ _ => False) Iy (still Iy goneY) sty go) fun r y2 ⟨x', er, hx⟩ => ?_
    subst er
    refine thnF hx fun _ y3 ⟨xv, G3, I3, r3, yl3, st3, gone3⟩ => ?_
    refine thnF (rg.run _ y3 _ G3 xv x' _ (I3.pinned (still I3 gone3) (T.obj _ _ st3)) r3 (step xv G3 yl3)) fun _ y4 ⟨σ4, G4, I4, hw4, q4⟩ => ?_
    refine thnF (rt.run _ y4 σ4 G4 _ I4 q4) fun b y5 ⟨G5, I5, q5⟩ => ?_
    have over : ∀ {y' : Shared} {G' : Hp}, Inv (X.blk u Hu scope ce fp) ([] ++ pinsAt fp y3.heap) σ4 G' y' → Nx G' → ∃ m, m < n ∧ ∃ i G', Inv (X.blk u Hu scope ce fp) [] (wipe σ (own.map (·.2))) G' y' ∧ tn i y'.heap ∧ (∀ b ∈ fp, G' b = none) ∧ W i m G' := fun {y' G'} I' nx => by
      obtain ⟨m', lt, w'⟩ := down G' nx
      have pin : ∀ b ∈ fp, ∀ o, y3.heap.get? b = some o → y'.heap.get? b = some o ∧ G' b = none := fun b hb o e => by
        have z := I'.pin (b, o) (List.mem_append_right _ (List.mem_append_right _ (mem_pinsAt hb e)))
        exact ⟨z.1, z.2.1⟩
      refine ⟨m', lt, i + 1, G', (I'.unpinned (pins := [])).weak (by rw [← hw4, wipe_length]) (fun j c e => ?_), T.keep _ _ _ st3 fun b hb o e => (pin b hb o e).1, fun b hb => ?_, w'⟩
      · rw [← hw4] at e
        exact (wipe_some e).1
      · obtain ⟨o, e, _⟩ := T.obj _ _ st3 b hb
        exact (pin b hb o e).2
    cases b with
    | false =>
      simp only [Bool.false_eq_true, if_false] at q5 ⊢
      exact over I5 q5
    | true =>
      simp only [if_true] at q5 ⊢
      refine thnF (rk.run _ y5 σ4 G5 _ I5 q5) fun z1 y6 ⟨kv, G6, I6, r6, q6⟩ => ?_
      refine thnF (rv.run _ y6 σ4 G6 _ I6 q6) fun z2 y7 ⟨vv, G7, I7, r7, kvs, k, kb, ek, hkb, hD7, hz7, nx⟩ => ?_
      subst ek
      cases (show z1 = Value.ref kb from r6)
      exact put_tup (X := X.blk u Hu scope ce fp) (by show X.A.units < cLine; omega) I7 hD7 hz7 hkb r7 fun y8 I8 => over I8 nx
end
end K65
end

section
set_option Elab.async false
set_option linter.all false
set_option maxRecDepth 100000
/-! Walks, comprehensions and loops read by the data that they make. -/
namespace K65
open PySem L2

/-! ### Paired -/
section
variable {α β : Type} {R R' : α → β → Prop}
theorem pr_map {f : α → β} (h : ∀ a, R a (f a)) : ∀ l : List α, Paired R l (l.map f)
  | [] => .nil
  | a :: r => .cons (h a) (pr_map h r)
theorem pr_mapM {f : α → β} : ∀ {l : List α}, (∀ a ∈ l, R a (f a)) → Paired R l (l.map f)
  | [], _ => .nil
  | a :: r, h => .cons (h a List.mem_cons_self) (pr_mapM fun b hb => h b (List.mem_cons_of_mem _ hb))
theorem pr_eq {f : α → β} : ∀ {l : List α} {m : List β}, Paired (fun a b => b = f a) l m → m = l.map f
  | _, _, .nil => rfl
  | _, _, .cons h t => by rw [h, pr_eq t]; rfl
theorem pr_imp : ∀ {l : List α} {m : List β}, Paired R l m → (∀ a b, a ∈ l → R a b → R' a b) → Paired R' l m
  | _, _, .nil, _ => .nil
  | _, _, .cons h t, k => .cons (k _ _ List.mem_cons_self h) (pr_imp t fun a b ha => k a b (List.mem_cons_of_mem _ ha))
theorem pr_get : ∀ {l : List α} {m : List β} {i : Nat} {b : β}, Paired R l m → m[i]? = some b → ∃ a, l[i]? = some a ∧ R a b
  | _, _, _, _, .nil, h => by simp at h
  | _, _, 0, _, .cons h _, e => by
    simp only [List.getElem?_cons_zero, Option.some.injEq] at e
    exact ⟨_, rfl, e ▸ h⟩
  | _, _, i + 1, _, .cons _ t, e => by
    simp only [List.getElem?_cons_succ] at e
    obtain ⟨a, h1, h2⟩ := pr_get t e
    exact ⟨a, by simpa using h1, h2⟩
theorem pr_getL : ∀ {l : List α} {m : List β} {i : Nat} {a : α}, Paired R l m → l[i]? = some a → ∃ b, m[i]? = some b ∧ R a b
  | _, _, _, _, .nil, h => by simp at h
  | _, _, 0, _, .cons h _, e => by
    simp only [List.getElem?_cons_zero, Option.some.injEq] at e
    exact ⟨_, rfl, e ▸ h⟩
  | _, _, i + 1, _, .cons _ t, e => by
    simp only [List.getElem?_cons_succ] at e
    obtain ⟨b, h1, h2⟩ := pr_getL t e
    exact ⟨b, by simpa using h1, h2⟩
theorem pr_app : ∀ {l l' : List α} {m m' : List β}, Paired R l m → Paired R l' m' → Paired R (l ++ l') (m ++ m')
  | _, _, _, _, .nil, s => s
  | _, _, _, _, .cons h t, s => .cons h (pr_app t s)
theorem pr_mem : ∀ {l : List α} {m : List β} {b : β}, Paired R l m → b ∈ m → ∃ a ∈ l, R a b
  | _, _, _, .nil, h => by cases h
  | _, _, _, .cons h t, hb => by
    rcases List.mem_cons.mp hb with e | hb
    · exact ⟨_, List.mem_cons_self, e ▸ h⟩
    · obtain ⟨a, h1, h2⟩ := pr_mem t hb
      exact ⟨a, List.mem_cons_of_mem _ h1, h2⟩
theorem pr_memL : ∀ {l : List α} {m : List β} {a : α}, Paired R l m → a ∈ l → ∃ b ∈ m, R a b
  | _, _, _, .nil, h => by cases h
  | _, _, _, .cons h t, hb => by
    rcases List.mem_cons.mp hb with e | hb
    · exact ⟨_, List.mem_cons_self, e ▸ h⟩
    · obtain ⟨a, h1, h2⟩ := pr_memL t hb
      exact ⟨a, List.mem_cons_of_mem _ h1, h2⟩
end
theorem take_snoc {α : Type} {l : List α} {i : Nat} {a : α} (h : l[i]? = some a) : l.take (i + 1) = l.take i ++ [a] := by
  rw [List.take_add_one, h]; rfl
theorem take_filter {α : Type} {l : List α} {i : Nat} {a : α} (p : α → Bool) (h : l[i]? = some a) : (l.take (i + 1)).filter p = (l.take i).filter p ++ (if p a = true then [a] else []) := by
  rw [take_snoc h, List.filter_append]
  congr 1
  rw [List.filter_cons, List.filter_nil]

/-! ### walks -/
structure Wk (J : It) (S : Hp → Prop) (xs : List V) : Prop where
  go : ∀ i H, S H → i < xs.length → J.go i H
  yld : ∀ i H x H', S H → i < xs.length → J.yld i H x H' → H' = H ∧ xs[i]? = some x
  stop : ∀ H, S H → J.stop xs.length H
theorem wk_tup {K : PySem.W.Frag} {a : Addr} {xs : List V} {S : Hp → Prop} (h : ∀ H, S H → H a = some (.tup xs)) : Wk (Itt K a) S xs where
  go := fun i H s hi => ⟨xs, xs[i], SqT.of (h H s), by simp [hi]⟩
  yld := fun i H x H' s _ y => ⟨y.1, y.2 xs (SqT.of (h H s))⟩
  stop := fun H s => ⟨xs, SqT.of (h H s), Nat.le_refl _⟩
theorem wk_lst {K : PySem.W.Frag} {a : Addr} {xs : List V} {S : Hp → Prop} (h : ∀ H, S H → H a = some (.lst xs)) : Wk (Itl K a) S xs where
  go := fun i H s hi => ⟨xs, xs[i], SqL.of (h H s), by simp [hi]⟩
  yld := fun i H x H' s _ y => ⟨y.1, y.2 xs (SqL.of (h H s))⟩
  stop := fun H s => ⟨xs, SqL.of (h H s), Nat.le_refl _⟩
theorem wk_rng {n : Nat} {S : Hp → Prop} : Wk (Itr 0 n) S ((List.range n).map vN) where
  go := fun i H s hi => by
    rw [List.length_map, List.length_range] at hi
    exact hi
  yld := fun i H x H' s hi y => ⟨y.1, by
    rw [List.length_map, List.length_range] at hi
    rw [List.getElem?_map, List.getElem?_range hi, y.2]
    show some (V.int (i : Int)) = some (V.int (0 + (i : Int)))
    rw [Int.zero_add]⟩
  stop := fun H s => by
    rw [List.length_map, List.length_range]
    exact Nat.le_refl _
theorem wk_rngL {lo n : Nat} {S : Hp → Prop} : Wk (Itr (lo : Int) n) S ((List.range' lo n).map vN) where
  go := fun i H s hi => by
    rw [List.length_map, List.length_range'] at hi
    exact hi
  yld := fun i H x H' s hi y => ⟨y.1, by
    rw [List.length_map, List.length_range'] at hi
    rw [List.getElem?_map, List.getElem?_range' hi, y.2]
    show some (V.int ((lo + 1 * i : Nat) : Int)) = some (V.int ((lo : Int) + (i : Int)))
    rw [Nat.one_mul, Int.natCast_add]⟩
  stop := fun H s => by
    rw [List.length_map, List.length_range']
    exact Nat.le_refl _
theorem wk_str {z : Str} {S : Hp → Prop} : Wk (Its z) S (z.cps.toList.map fun c => V.str ⟨#[c]⟩) where
  go := fun i H s hi => by
    rw [List.length_map, Array.length_toList] at hi
    exact hi
  yld := fun i H x H' s hi y => ⟨y.1, by
    obtain ⟨_, c, hc, rfl⟩ := y
    rw [List.getElem?_map, Array.getElem?_toList, hc]
    rfl⟩
  stop := fun H s => by
    rw [List.length_map, Array.length_toList]
    exact Nat.le_refl _

section
variable {J : It} {S : Hp → Prop} {xs : List V} {g : TG}
/-- a list comprehension's loop, by an invariant over (turn, heap) -/
theorem lc_by (wk : Wk J S xs) {tt : TT} {te : TE} {vs : List Nat} {σ : St} {H1 : Hp} {D : Addr} {Qd : Hp → Prop} (Pv : Nat → Hp → Prop) (hS : ∀ i H, Pv i H → S H) (h0 : Pv 0 (upd H1 D (.lst [])))
    (hs : ∀ i x H, xs[i]? = some x → Pv i H → g x (wipe σ vs) H fun σ2 H2 => wipe σ2 vs = wipe σ vs ∧ tt σ2 H2 fun b H3 =>
      if b = true then te σ2 H3 fun y H4 => ∃ acc, H4 D = some (.lst acc) ∧ acc.length < sizeLine ∧ Pv (i + 1) (upd H4 D (.lst (acc ++ [y]))) else Pv (i + 1) H3) (hd : ∀ H, Pv xs.length H → Qd H) :
    ∃ W : Nat → Nat → Hp → Prop, (∃ m, W 0 m (upd H1 D (.lst []))) ∧ ∀ i m H, W i m H →
      (J.stop i H ∧ Qd H) ∨ (J.go i H ∧ ∃ Nx : Hp → Prop, (∀ H', Nx H' → ∃ m', m' < m ∧ W (i + 1) m' H') ∧ ∀ x H', J.yld i H x H' → g x (wipe σ vs) H' fun σ2 H2 => wipe σ2 vs = wipe σ vs ∧ tt σ2 H2 fun b H3 =>
        if b = true then te σ2 H3 fun y H4 => ∃ acc, H4 D = some (.lst acc) ∧ acc.length < sizeLine ∧ Nx (upd H4 D (.lst (acc ++ [y]))) else Nx H3) := by
  refine ⟨fun i m H => m + i = xs.length ∧ Pv i H, ⟨xs.length, rfl, h0⟩, ?_⟩
  rintro i m H ⟨e, p⟩
  cases m with
  | zero =>
    have e' : i = xs.length := by omega
    rw [e'] at p ⊢
    exact .inl ⟨wk.stop H (hS _ _ p), hd H p⟩
  | succ m =>
    have hlt : i < xs.length := by omega
    refine .inr ⟨wk.go i H (hS _ _ p) hlt, Pv (i + 1), fun H' p' => ⟨m, Nat.lt_succ_self m, by omega, p'⟩, fun x H' y => ?_⟩
    obtain ⟨eH, ex⟩ := wk.yld i H x H' (hS _ _ p) hlt y
    rw [eH]
    exact hs i x H ex p
/-- a dict comprehension's loop (keys ints or texts) -/
theorem dc_by (wk : Wk J S xs) {tt : TT} {tk tv : TE} {vs : List Nat} {σ : St} {H1 : Hp} {D : Addr} {Qd : Hp → Prop} (Pv : Nat → Hp → Prop) (hS : ∀ i H, Pv i H → S H) (h0 : Pv 0 (upd H1 D (.dK [])))
    (hs : ∀ i x H, xs[i]? = some x → Pv i H → g x (wipe σ vs) H fun σ2 H2 => wipe σ2 vs = wipe σ vs ∧ tt σ2 H2 fun b H3 =>
      if b = true then tk σ2 H3 fun y H4 => tv σ2 H4 fun z H5 => ∃ kvs k, y = kV k ∧ H5 D = some (.dK kvs) ∧ kvs.length < sizeLine ∧ Pv (i + 1) (upd H5 D (.dK (putK kvs k z))) else Pv (i + 1) H3) (hd : ∀ H, Pv xs.length H → Qd H) :
    ∃ W : Nat → Nat → Hp → Prop, (∃ m, W 0 m (upd H1 D (.dK []))) ∧ ∀ i m H, W i m H →
      (J.stop i H ∧ Qd H) ∨ (J.go i H ∧ ∃ Nx : Hp → Prop, (∀ H', Nx H' → ∃ m', m' < m ∧ W (i + 1) m' H') ∧ ∀ x H', J.yld i H x H' → g x (wipe σ vs) H' fun σ2 H2 => wipe σ2 vs = wipe σ vs ∧ tt σ2 H2 fun b H3 =>
        if b = true then tk σ2 H3 fun y H4 => tv σ2 H4 fun z H5 => ∃ kvs k, y = kV k ∧ H5 D = some (.dK kvs) ∧ kvs.length < sizeLine ∧ Nx (upd H5 D (.dK (putK kvs k z))) else Nx H3) := by
  refine ⟨fun i m H => m + i = xs.length ∧ Pv i H, ⟨xs.length, rfl, h0⟩, ?_⟩
  rintro i m H ⟨e, p⟩
  cases m with
  | zero =>
    have e' : i = xs.length := by omega
    rw [e'] at p ⊢
    exact .inl ⟨wk.stop H (hS _ _ p), hd H p⟩
  | succ m =>
    have hlt : i < xs.length := by omega
    refine .inr ⟨wk.go i H (hS _ _ p) hlt, Pv (i + 1), fun H' p' => ⟨m, Nat.lt_succ_self m, by omega, p'⟩, fun x H' y => ?_⟩
    obtain ⟨eH, ex⟩ := wk.yld i H x H' (hS _ _ p) hlt y
    rw [eH]
    exact hs i x H ex p
/-- a for loop, by an invariant over (turn, slots, heap) -/
theorem for_by (wk : Wk J S xs) {tb : TS} {D : Ends} {σ : St} {H : Hp} (Pv : Nat → St → Hp → Prop) (hS : ∀ i σ H, Pv i σ H → S H) (h0 : Pv 0 σ H)
    (hs : ∀ i x σ H, xs[i]? = some x → Pv i σ H → g x σ H fun σ2 H2 => tb { D with nx := Pv (i + 1), ct := Pv (i + 1), bk := D.nx } σ2 H2) (hd : ∀ σ H, Pv xs.length σ H → D.nx σ H) :
    ∃ W : Nat → Nat → St → Hp → Prop, (∃ m, W 0 m σ H) ∧ ∀ i m σ H, W i m σ H →
      (J.stop i H ∧ D.nx σ H) ∨ (J.go i H ∧ ∃ N : St → Hp → Prop, (∀ σ' H', N σ' H' → ∃ m', m' < m ∧ W (i + 1) m' σ' H') ∧ ∀ x H', J.yld i H x H' → g x σ H' fun σ2 H2 => tb { D with nx := N, ct := N, bk := D.nx } σ2 H2) := by
  refine ⟨fun i m σ H => m + i = xs.length ∧ Pv i σ H, ⟨xs.length, rfl, h0⟩, ?_⟩
  rintro i m σ H ⟨e, p⟩
  cases m with
  | zero =>
    have e' : i = xs.length := by omega
    rw [e'] at p ⊢
    exact .inl ⟨wk.stop H (hS _ _ _ p), hd σ H p⟩
  | succ m =>
    have hlt : i < xs.length := by omega
    refine .inr ⟨wk.go i H (hS _ _ _ p) hlt, Pv (i + 1), fun σ' H' p' => ⟨m, Nat.lt_succ_self m, by omega, p'⟩, fun x H' y => ?_⟩
    obtain ⟨eH, ex⟩ := wk.yld i H x H' (hS _ _ _ p) hlt y
    rw [eH]
    exact hs i x σ H ex p

/-- a list comprehension that makes, of each a of l that passes p, something that El tells; nothing that stood changes -/
theorem lc_rel {α : Type} {l : List α} {R : α → V → Prop} {tt : TT} {te : TE} {vs : List Nat} {σ : St} {H1 : Hp} {D : Addr} {Qd : Hp → Prop} (hD : H1 D = none) (wk : Wk J (Same H1) xs) (hp : Paired R l xs) (hz : l.length < 10000000)
    (p : α → Bool) (El : α → V → Hp → Prop) (mono : ∀ a y H H', Same H H' → El a y H → El a y H')
    (stab : ∀ a y H m m', H D = some (.lst m) → El a y H → El a y (upd H D (.lst m')))
    (hs : ∀ a x H, a ∈ l → R a x → Same H1 H → (∃ m, H D = some (.lst m)) → ∀ (Ky : VK) (Kn : Hp → Prop), (∀ y H', p a = true → Same H H' → El a y H' → Ky y H') → (∀ H', p a = false → Same H H' → Kn H') →
      g x (wipe σ vs) H fun σ2 H2 => wipe σ2 vs = wipe σ vs ∧ tt σ2 H2 fun b H3 => if b = true then te σ2 H3 Ky else Kn H3)
    (hd : ∀ H ys, Same H1 H → H D = some (.lst ys) → Paired (fun a y => El a y H) (l.filter p) ys → Qd H) :
    ∃ W : Nat → Nat → Hp → Prop, (∃ m, W 0 m (upd H1 D (.lst []))) ∧ ∀ i m H, W i m H →
      (J.stop i H ∧ Qd H) ∨ (J.go i H ∧ ∃ Nx : Hp → Prop, (∀ H', Nx H' → ∃ m', m' < m ∧ W (i + 1) m' H') ∧ ∀ x H', J.yld i H x H' → g x (wipe σ vs) H' fun σ2 H2 => wipe σ2 vs = wipe σ vs ∧ tt σ2 H2 fun b H3 =>
        if b = true then te σ2 H3 fun y H4 => ∃ acc, H4 D = some (.lst acc) ∧ acc.length < sizeLine ∧ Nx (upd H4 D (.lst (acc ++ [y]))) else Nx H3) := by
  refine lc_by wk (fun i H => Same H1 H ∧ ∃ ys, H D = some (.lst ys) ∧ Paired (fun a y => El a y H) ((l.take i).filter p) ys) (fun i H q => q.1) ⟨same_new hD _, [], upd_same, .nil⟩ ?_ ?_
  · rintro i x H hi ⟨s1, ys, hys, hpr⟩
    obtain ⟨a, ha, hR⟩ := pr_get hp hi
    have hm : a ∈ l := List.mem_of_getElem? ha
    refine hs a x H hm hR s1 ⟨ys, hys⟩ _ _ (fun y H' hpa s2 hEl => ?_) (fun H' hpa s2 => ?_)
    · have hys' := s2 _ _ hys
      refine ⟨ys, hys', ?_, same_mut (s1.trans s2) hD, ys ++ [y], upd_same, ?_⟩
      · have h1 := hpr.length
        have h2 : ((l.take i).filter p).length ≤ l.length := Nat.le_trans (List.length_filter_le _ _) (by rw [List.length_take]; omega)
        have h3 : (10000000 : Nat) ≤ sizeLine := by decide
        omega
      · rw [take_filter p ha, if_pos hpa]
        refine pr_app (pr_imp hpr fun b z _ q => stab b z H' _ _ hys' (mono b z H H' s2 q)) (.cons (stab a y H' _ _ hys' hEl) .nil)
    · refine ⟨s1.trans s2, ys, s2 _ _ hys, ?_⟩
      rw [take_filter p ha, if_neg (by rw [hpa]; decide), List.append_nil]
      exact pr_imp hpr fun b z _ q => mono b z H H' s2 q
  · rintro H ⟨s1, ys, hys, hpr⟩
    refine hd H ys s1 hys ?_
    rw [← hp.length, List.take_length] at hpr
    exact hpr
/-- the same where the element is a value that no heap tells -/
theorem lc_fun {α : Type} {l : List α} {R : α → V → Prop} {tt : TT} {te : TE} {vs : List Nat} {σ : St} {H1 : Hp} {D : Addr} {Qd : Hp → Prop} (hD : H1 D = none) (wk : Wk J (Same H1) xs) (hp : Paired R l xs) (hz : l.length < 10000000)
    (p : α → Bool) (f : α → V)
    (hs : ∀ a x H, a ∈ l → R a x → Same H1 H → ∀ (Ky : VK) (Kn : Hp → Prop), (∀ H', p a = true → Same H H' → Ky (f a) H') → (∀ H', p a = false → Same H H' → Kn H') →
      g x (wipe σ vs) H fun σ2 H2 => wipe σ2 vs = wipe σ vs ∧ tt σ2 H2 fun b H3 => if b = true then te σ2 H3 Ky else Kn H3)
    (hd : ∀ H, Same H1 H → H D = some (.lst ((l.filter p).map f)) → Qd H) :
    ∃ W : Nat → Nat → Hp → Prop, (∃ m, W 0 m (upd H1 D (.lst []))) ∧ ∀ i m H, W i m H →
      (J.stop i H ∧ Qd H) ∨ (J.go i H ∧ ∃ Nx : Hp → Prop, (∀ H', Nx H' → ∃ m', m' < m ∧ W (i + 1) m' H') ∧ ∀ x H', J.yld i H x H' → g x (wipe σ vs) H' fun σ2 H2 => wipe σ2 vs = wipe σ vs ∧ tt σ2 H2 fun b H3 =>
        if b = true then te σ2 H3 fun y H4 => ∃ acc, H4 D = some (.lst acc) ∧ acc.length < sizeLine ∧ Nx (upd H4 D (.lst (acc ++ [y]))) else Nx H3) :=
  lc_rel hD wk hp hz p (fun a y _ => y = f a) (fun _ _ _ _ _ h => h) (fun _ _ _ _ _ _ h => h) (fun a x H hm hR s1 _ Ky Kn k1 k2 => hs a x H hm hR s1 Ky Kn (fun H' h1 h2 => k1 _ H' h1 h2 rfl) k2) fun H ys s1 hy hpr => hd H s1 (by rw [hy, pr_eq hpr])
end
theorem yesT {σ : St} {H : Hp} {Q : Bool → Hp → Prop} (h : Q true H) : tYes σ H Q := h
theorem filter_yes {α : Type} (l : List α) : l.filter (fun _ => true) = l := List.filter_eq_self.mpr fun _ _ => rfl
end K65
end

section
set_option Elab.async false
set_option linter.all false
set_option maxRecDepth 100000
/-! How the data of the plain law stand in the heap. -/
namespace K65
open PySem L2

/-! ### texts of letters -/
def cd (b : Bool) : Nat := if b then 98 else 97
def sOf (l : List Bool) : Str := ⟨(l.map cd).toArray⟩
theorem sOf_nil : ("" : Str) = sOf [] := by decide +kernel
theorem sOf_a : ("a" : Str) = sOf [false] := by decide +kernel
theorem sOf_b : ("b" : Str) = sOf [true] := by decide +kernel
theorem sOf_len (l : List Bool) : (sOf l).length = l.length := by
  show (l.map cd).toArray.size = l.length
  rw [List.size_toArray, List.length_map]
theorem cd_inj {a b : Bool} (h : cd a = cd b) : a = b := by
  cases a <;> cases b <;> first | rfl | exact absurd h (by decide)
theorem map_inj {l m : List Bool} (h : l.map cd = m.map cd) : l = m := by
  induction l generalizing m with
  | nil => cases m with
    | nil => rfl
    | cons => cases h
  | cons a l ih => cases m with
    | nil => cases h
    | cons b m =>
      rw [List.map_cons, List.map_cons] at h
      injection h with h1 h2
      rw [cd_inj h1, ih h2]
theorem sOf_inj {l m : List Bool} (h : sOf l = sOf m) : l = m := by
  have e : (l.map cd).toArray = (m.map cd).toArray := congrArg Str.cps h
  exact map_inj (congrArg Array.toList e)
theorem sOf_get (l : List Bool) (i : Nat) : (sOf l).cps.toList[i]? = (l[i]?).map cd := by
  show (l.map cd)[i]? = _
  rw [List.getElem?_map]
theorem one_inj {a b : Nat} (h : (⟨#[a]⟩ : Str) = ⟨#[b]⟩) : a = b := by
  have e : (#[a] : Array Nat) = #[b] := congrArg Str.cps h
  simpa using e
theorem glue_fold : ∀ (ls : List (List Bool)) (acc : Array Nat), (ls.map sOf).foldl (fun acc p => acc ++ ("" : Str).cps ++ p.cps) acc = acc ++ (ls.flatten.map cd).toArray
  | [], acc => by simp
  | l :: r, acc => by
    rw [List.map_cons, List.foldl_cons, glue_fold r]
    have e0 : ("" : Str).cps = #[] := by decide +kernel
    rw [e0]
    show acc ++ #[] ++ (l.map cd).toArray ++ (r.flatten.map cd).toArray = acc ++ ((l :: r).flatten.map cd).toArray
    simp
theorem join_sOf (ls : List (List Bool)) : Txt.join "" (ls.map sOf) = sOf ls.flatten := by
  show Builtin.Str.glued "" (ls.map sOf) = _
  unfold Builtin.Str.glued
  cases ls with
  | nil => rfl
  | cons l r =>
    have h := glue_fold r (sOf l).cps
    show (⟨((r.map sOf)).foldl (fun acc p => acc ++ ("" : Str).cps ++ p.cps) (sOf l).cps⟩ : Str) = _
    rw [h]
    show (⟨(l.map cd).toArray ++ (r.flatten.map cd).toArray⟩ : Str) = ⟨((l :: r).flatten.map cd).toArray⟩
    simp
theorem sum_len : ∀ ls : List (List Bool), ((ls.map sOf).map (·.length)).sum = ls.flatten.length
  | [] => rfl
  | l :: r => by
    rw [List.map_cons, List.map_cons, List.sum_cons, sum_len r, sOf_len, List.flatten_cons, List.length_append]

/-! ### expressions -/
def sgS (m : Bool) : Str := if m then "many" else "maybe"
def roS (b : Bool) : Str := if b then "or" else "join"
mutual
def rE : Ex → V → Hp → Prop
  | .lf o, v, _ => v = .str (sOf o.toList)
  | .sg m e, v, H => ∃ (p : Addr) (u : V), v = .ref p ∧ H p = some (.tup [.str (sgS m), u]) ∧ rE e u H
  | .ro b es, v, H => ∃ (p q : Addr) (us : List V), v = .ref p ∧ H p = some (.tup [.str (roS b), .ref q]) ∧ H q = some (.tup us) ∧ rEs es us H
def rEs : List Ex → List V → Hp → Prop
  | [], us, _ => us = []
  | e :: r, us, H => ∃ (u : V) (ws : List V), us = u :: ws ∧ rE e u H ∧ rEs r ws H
end
/-- tuples stay -/
def TS (H H' : Hp) : Prop := ∀ a xs, H a = some (.tup xs) → H' a = some (.tup xs)
theorem TS.of {H H' : Hp} (h : Same H H') : TS H H' := fun a xs e => h a _ e
theorem TS.upd {H : Hp} {D : Addr} {l : List V} {o : HO} (h : H D = some (.lst l)) : TS H (upd H D o) := fun a xs e => by
  rw [upd_ne (ne_of e h (by intro z; cases z))]
  exact e
theorem TS.trans {H H1 H2 : Hp} (a : TS H H1) (b : TS H1 H2) : TS H H2 := fun c xs e => b c xs (a c xs e)
theorem TS.refl (H : Hp) : TS H H := fun _ _ h => h
mutual
theorem rE_ts {H H' : Hp} (t : TS H H') : ∀ (e : Ex) (v : V), rE e v H → rE e v H'
  | .lf o, v, h => h
  | .sg m e, v, ⟨p, u, h1, h2, h3⟩ => ⟨p, u, h1, t _ _ h2, rE_ts t e u h3⟩
  | .ro b es, v, ⟨p, q, us, h1, h2, h3, h4⟩ => ⟨p, q, us, h1, t _ _ h2, t _ _ h3, rEs_ts t es us h4⟩
theorem rEs_ts {H H' : Hp} (t : TS H H') : ∀ (es : List Ex) (us : List V), rEs es us H → rEs es us H'
  | [], us, h => h
  | e :: r, us, ⟨u, ws, h1, h2, h3⟩ => ⟨u, ws, h1, rE_ts t e u h2, rEs_ts t r ws h3⟩
end
theorem rEs_pr {H : Hp} : ∀ {es : List Ex} {us : List V}, rEs es us H → Paired (fun e u => rE e u H) es us
  | [], us, h => by
    have h : us = [] := h
    rw [h]
    exact .nil
  | e :: r, us, ⟨u, ws, h1, h2, h3⟩ => by
    rw [h1]
    exact .cons h2 (rEs_pr h3)
theorem rEs_of {H : Hp} : ∀ {es : List Ex} {us : List V}, Paired (fun e u => rE e u H) es us → rEs es us H
  | _, _, .nil => rfl
  | _, _, .cons h t => ⟨_, _, rfl, h, rEs_of t⟩
/-- the parts directly in an expression -/
def parts : Ex → List Ex
  | .lf _ => []
  | .sg _ e => [e]
  | .ro _ es => es
def isLf : Ex → Bool
  | .lf _ => true
  | _ => false

/-! ### pairs, tuples of places -/
def rPr (q : Nat × Nat) (v : V) (H : Hp) : Prop := ∃ p : Addr, v = .ref p ∧ H p = some (.tup [vN q.1, vN q.2])
def rNs (l : List Nat) (v : V) (H : Hp) : Prop := ∃ p : Addr, v = .ref p ∧ H p = some (.tup (l.map vN))
theorem rPr_ts {H H' : Hp} (t : TS H H') {q : Nat × Nat} {v : V} (h : rPr q v H) : rPr q v H' := by
  obtain ⟨p, e, h⟩ := h
  exact ⟨p, e, t _ _ h⟩
theorem rNs_ts {H H' : Hp} (t : TS H H') {q : List Nat} {v : V} (h : rNs q v H) : rNs q v H' := by
  obtain ⟨p, e, h⟩ := h
  exact ⟨p, e, t _ _ h⟩

/-! ### isinstance, by kinds -/
theorem k_ss : kitB "str" "str" = some true := by decide +kernel
theorem k_us : kitB "tuple" "str" = some false := by decide +kernel
theorem k_uu : kitB "tuple" "tuple" = some true := by decide +kernel
theorem k_su : kitB "str" "tuple" = some false := by decide +kernel
theorem k_lu : kitB "list" "tuple" = some false := by decide +kernel
theorem k_nu : kitB "NoneType" "tuple" = some false := by decide +kernel
theorem k_iu : kitB "int" "tuple" = some false := by decide +kernel
theorem k_bb : kitB "bool" "bool" = some true := by decide +kernel
theorem k_ib : kitB "int" "bool" = some false := by decide +kernel
theorem k_ii : kitB "int" "int" = some true := by decide +kernel
theorem k_bi : kitB "bool" "int" = some true := by decide +kernel
theorem k_si : kitB "str" "int" = some false := by decide +kernel
theorem k_ni : kitB "NoneType" "int" = some false := by decide +kernel
theorem k_sb : kitB "str" "bool" = some false := by decide +kernel
theorem k_ub : kitB "tuple" "bool" = some false := by decide +kernel
theorem k_lb : kitB "list" "bool" = some false := by decide +kernel
theorem k_ui : kitB "tuple" "int" = some false := by decide +kernel
theorem k_li : kitB "list" "int" = some false := by decide +kernel
theorem k_ls : kitB "list" "str" = some false := by decide +kernel
theorem k_ll : kitB "list" "list" = some true := by decide +kernel
theorem k_ul : kitB "tuple" "list" = some false := by decide +kernel
/-- is it a text -/
theorem rE_str {e : Ex} {v : V} {H : Hp} (h : rE e v H) : ∃ n, Knd H v n ∧ kitB n "str" = some (isLf e) := by
  cases e with
  | lf o =>
    have h : v = _ := h
    rw [h]
    exact ⟨_, .str _, k_ss⟩
  | sg m e =>
    obtain ⟨p, u, h1, h2, _⟩ := h
    rw [h1]
    exact ⟨_, .tup h2, k_us⟩
  | ro b es =>
    obtain ⟨p, q, us, h1, h2, _⟩ := h
    rw [h1]
    exact ⟨_, .tup h2, k_us⟩
/-- what holds of words: a word of a single or of a row -/
theorem w_single (m : Bool) : inV (.str (sgS m)) [.str "maybe", .str "many"] = true := by cases m <;> decide +kernel
theorem w_row (b : Bool) : inV (.str (roS b)) [.str "maybe", .str "many"] = false := by cases b <;> decide +kernel
theorem w_rowR (b : Bool) : inV (.str (roS b)) [.str "join", .str "or"] = true := by cases b <;> decide +kernel
theorem w_many (m : Bool) : decide (V.str (sgS m) = V.str "many") = m := by cases m <;> decide +kernel
theorem w_or (b : Bool) : decide (V.str (roS b) = V.str "or") = b := by cases b <;> decide +kernel
theorem w_join (b : Bool) : decide (V.str (roS b) = V.str "join") = !b := by cases b <;> decide +kernel
end K65
end

section
set_option Elab.async false
set_option linter.all false
set_option maxRecDepth 100000
/-! Comprehensions with two fors; dicts as sets of their keys; lists of numbers and of pairs in the heap. -/
namespace K65
open PySem L2

theorem len_flat {α β : Type} {F : α → List β} {c : Nat} (h : ∀ a, (F a).length ≤ c) : ∀ l : List α, (l.flatMap F).length ≤ l.length * c
  | [] => Nat.zero_le _
  | a :: r => by
    have h1 := h a
    have h2 := len_flat h r
    rw [List.flatMap_cons, List.length_append, List.length_cons, Nat.succ_mul]
    omega
theorem take_flat {α β : Type} {l : List α} {i : Nat} {a : α} (F : α → List β) (h : l[i]? = some a) : (l.take (i + 1)).flatMap F = (l.take i).flatMap F ++ F a := by
  rw [take_snoc h, List.flatMap_append]
  simp

section
variable {J : It} {xs ys : List V}
/-- [.. for a in l for b in m if p a b], both targets names: what is made of each pair, El tells; nothing that stood changes -/
theorem lc2_rel {α β : Type} {l : List α} {m : List β} {R : α → V → Prop} {R2 : β → V → Prop} {wi1 : TI} {tt1 : TT} {te : TE} {vs vs1 : List Nat} {j0 j1 : Nat} {σ : St} {H1 : Hp} {D : Addr} {Qd : Hp → Prop}
    (hD : H1 D = none) (wk : Wk J (Same H1) xs) (hp : Paired R l xs) (hp2 : Paired R2 m ys) (hz : l.length * m.length + m.length < 10000000)
    (hw : ∀ x, wipe ((wipe σ vs).set j0 (some x)) vs = wipe σ vs) (hw1 : ∀ x y, wipe ((wipe ((wipe σ vs).set j0 (some x)) vs1).set j1 (some y)) vs1 = wipe ((wipe σ vs).set j0 (some x)) vs1)
    (p : α → β → Bool) (El : α × β → V → Hp → Prop) (mono : ∀ a y H H', Same H H' → El a y H → El a y H')
    (stab : ∀ a y H n n', H D = some (.lst n) → El a y H → El a y (upd H D (.lst n')))
    (hin : ∀ a x H, a ∈ l → R a x → Same H1 H → ∀ B : It → Hp → Prop, (∀ J1, Wk J1 (Same H1) ys → B J1 H) → wi1 ((wipe σ vs).set j0 (some x)) H B)
    (he : ∀ a x b y H, a ∈ l → b ∈ m → R a x → R2 b y → Same H1 H → (∃ n, H D = some (.lst n)) → ∀ (Ky : VK) (Kn : Hp → Prop), (∀ z H', p a b = true → Same H H' → El (a, b) z H' → Ky z H') → (∀ H', p a b = false → Same H H' → Kn H') →
      tt1 ((wipe ((wipe σ vs).set j0 (some x)) vs1).set j1 (some y)) H fun c H6 => if c = true then te ((wipe ((wipe σ vs).set j0 (some x)) vs1).set j1 (some y)) H6 Ky else Kn H6)
    (hd : ∀ H zs, Same H1 H → H D = some (.lst zs) → Paired (fun a y => El a y H) (l.flatMap fun a => (m.filter (p a)).map (Prod.mk a)) zs → Qd H) :
    ∃ W : Nat → Nat → Hp → Prop, (∃ n, W 0 n (upd H1 D (.lst []))) ∧ ∀ i n H, W i n H →
      (J.stop i H ∧ Qd H) ∨ (J.go i H ∧ ∃ Nx : Hp → Prop, (∀ H', Nx H' → ∃ n', n' < n ∧ W (i + 1) n' H') ∧ ∀ x H', J.yld i H x H' → gName j0 x (wipe σ vs) H' fun σ2 H2 => wipe σ2 vs = wipe σ vs ∧ tYes σ2 H2 fun b H3 =>
        if b = true then wi1 σ2 H3 fun J1 H4 => ∃ W1 : Nat → Nat → Hp → Prop, (∃ n, W1 0 n H4) ∧ ∀ j k H, W1 j k H →
          (J1.stop j H ∧ Nx H) ∨ (J1.go j H ∧ ∃ Nx1 : Hp → Prop, (∀ H', Nx1 H' → ∃ k', k' < k ∧ W1 (j + 1) k' H') ∧ ∀ x H', J1.yld j H x H' → gName j1 x (wipe σ2 vs1) H' fun σ3 H5 => wipe σ3 vs1 = wipe σ2 vs1 ∧ tt1 σ3 H5 fun b H6 =>
            if b = true then te σ3 H6 fun y H7 => ∃ acc, H7 D = some (.lst acc) ∧ acc.length < sizeLine ∧ Nx1 (upd H7 D (.lst (acc ++ [y]))) else Nx1 H6)
        else Nx H3) := by
  have hsz : (10000000 : Nat) ≤ sizeLine := by decide
  have hF : ∀ a : α, ((m.filter (p a)).map (Prod.mk a)).length ≤ m.length := fun a => by rw [List.length_map]; exact List.length_filter_le _ _
  refine ⟨fun i n H => n + i = xs.length ∧ Same H1 H ∧ ∃ zs, H D = some (.lst zs) ∧ Paired (fun a y => El a y H) ((l.take i).flatMap fun a => (m.filter (p a)).map (Prod.mk a)) zs, ⟨xs.length, rfl, same_new hD _, [], upd_same, .nil⟩, ?_⟩
  rintro i n H ⟨e, s1, zs, hzs, hpr⟩
  cases n with
  | zero =>
    have e' : i = xs.length := by omega
    rw [e'] at hpr ⊢
    refine .inl ⟨wk.stop H s1, hd H zs s1 hzs ?_⟩
    rw [← hp.length, List.take_length] at hpr
    exact hpr
  | succ n =>
    have hlt : i < xs.length := by omega
    refine .inr ⟨wk.go i H s1 hlt, fun H' => Same H1 H' ∧ ∃ zs, H' D = some (.lst zs) ∧ Paired (fun a y => El a y H') ((l.take (i + 1)).flatMap fun a => (m.filter (p a)).map (Prod.mk a)) zs, fun H' q => ⟨n, Nat.lt_succ_self n, by omega, q⟩, fun x H' y => ?_⟩
    obtain ⟨eH, ex⟩ := wk.yld i H x H' s1 hlt y
    rw [eH]
    obtain ⟨a, ha, hR⟩ := pr_get hp ex
    have hm : a ∈ l := List.mem_of_getElem? ha
    have hi : i < l.length := (List.getElem?_eq_some_iff.mp ha).1
    have hlen : ((l.take i).flatMap fun a => (m.filter (p a)).map (Prod.mk a)).length ≤ l.length * m.length :=
      Nat.le_trans (len_flat hF _) (Nat.mul_le_mul_right _ (by rw [List.length_take]; omega))
    refine ⟨hw x, yesT ?_⟩
    rw [if_pos rfl]
    refine hin a x H hm hR s1 _ fun J1 wk1 => ?_
    refine ⟨fun j k H' => k + j = ys.length ∧ Same H1 H' ∧ ∃ zs, H' D = some (.lst zs) ∧ Paired (fun a y => El a y H') (((l.take i).flatMap fun a => (m.filter (p a)).map (Prod.mk a)) ++ ((m.take j).filter (p a)).map (Prod.mk a)) zs,
      ⟨ys.length, rfl, s1, zs, hzs, by rw [List.take_zero, List.filter_nil, List.map_nil, List.append_nil]; exact hpr⟩, ?_⟩
    rintro j k H3 ⟨e3, s3, zs3, hzs3, hpr3⟩
    cases k with
    | zero =>
      have e' : j = ys.length := by omega
      rw [e'] at hpr3 ⊢
      refine .inl ⟨wk1.stop H3 s3, s3, zs3, hzs3, ?_⟩
      rw [← hp2.length, List.take_length] at hpr3
      rw [take_flat _ ha]
      exact hpr3
    | succ k =>
      have hlt1 : j < ys.length := by omega
      refine .inr ⟨wk1.go j H3 s3 hlt1, fun H' => Same H1 H' ∧ ∃ zs, H' D = some (.lst zs) ∧ Paired (fun a y => El a y H') (((l.take i).flatMap fun a => (m.filter (p a)).map (Prod.mk a)) ++ ((m.take (j + 1)).filter (p a)).map (Prod.mk a)) zs,
        fun H' q => ⟨k, Nat.lt_succ_self k, by omega, q⟩, fun y H4 yy => ?_⟩
      obtain ⟨eH4, ey⟩ := wk1.yld j H3 y H4 s3 hlt1 yy
      rw [eH4]
      obtain ⟨b, hb, hR2⟩ := pr_get hp2 ey
      have hmb : b ∈ m := List.mem_of_getElem? hb
      refine ⟨hw1 x y, ?_⟩
      refine he a x b y H3 hm hmb hR hR2 s3 ⟨zs3, hzs3⟩ _ _ (fun z H5 hpa s5 hEl => ?_) (fun H5 hpa s5 => ?_)
      · have hzs5 := s5 _ _ hzs3
        refine ⟨zs3, hzs5, ?_, same_mut (s3.trans s5) hD, zs3 ++ [z], upd_same, ?_⟩
        · have h1 := hpr3.length
          rw [List.length_append, List.length_map] at h1
          have h2 : ((m.take j).filter (p a)).length ≤ m.length := Nat.le_trans (List.length_filter_le _ _) (by rw [List.length_take]; omega)
          omega
        · rw [take_filter (p a) hb, if_pos hpa, List.map_append, ← List.append_assoc]
          exact pr_app (pr_imp hpr3 fun c y _ q => stab c y H5 _ _ hzs5 (mono c y H3 H5 s5 q)) (.cons (stab _ z H5 _ _ hzs5 hEl) .nil)
      · refine ⟨s3.trans s5, zs3, s5 _ _ hzs3, ?_⟩
        rw [take_filter (p a) hb, if_neg (by rw [hpa]; decide), List.append_nil]
        exact pr_imp hpr3 fun c y _ q => mono c y H3 H5 s5 q
end

/-! ### dicts as sets of their keys -/
section
variable {κ : Type} [DecidableEq κ]
def keyT (k : κ) : κ × V := (k, .bl true)
def addK (m : List κ) (k : κ) : List κ := if k ∈ m then m else m ++ [k]
theorem put_keys (m : List κ) (k : κ) : putK (m.map keyT) k (.bl true) = (addK m k).map keyT := by
  unfold putK addK
  by_cases h : k ∈ m
  · have h1 : ((m.map keyT).any fun kv => decide (kv.1 = k)) = true := List.any_eq_true.mpr ⟨keyT k, List.mem_map.mpr ⟨k, h, rfl⟩, decide_eq_true rfl⟩
    rw [if_pos h1, if_pos h, List.map_map]
    refine List.map_congr_left fun a _ => ?_
    show (if a = k then ((a, V.bl true) : κ × V) else (a, V.bl true)) = (a, V.bl true)
    split <;> rfl
  · have h1 : ¬ ((m.map keyT).any fun kv => decide (kv.1 = k)) = true := fun z => by
      obtain ⟨kv, h2, h3⟩ := List.any_eq_true.mp z
      obtain ⟨a, ha, rfl⟩ := List.mem_map.mp h2
      have e : a = k := of_decide_eq_true h3
      exact h (e ▸ ha)
    rw [if_neg h1, if_neg h, List.map_append]
    rfl
theorem addK_mem {m : List κ} {k x : κ} : x ∈ addK m k ↔ x ∈ m ∨ x = k := by
  unfold addK
  by_cases h : k ∈ m
  · rw [if_pos h]
    constructor
    · exact .inl
    · rintro (h1 | h1)
      · exact h1
      · rw [h1]; exact h
  · rw [if_neg h, List.mem_append, List.mem_singleton]
theorem addK_nodup {m : List κ} {k : κ} (h : m.Nodup) : (addK m k).Nodup := by
  unfold addK
  by_cases hk : k ∈ m
  · rw [if_pos hk]; exact h
  · rw [if_neg hk, List.nodup_append]
    refine ⟨h, (by simp), fun a ha b hb e => ?_⟩
    rw [List.mem_singleton] at hb
    exact hk (hb ▸ e ▸ ha)
theorem addK_len (m : List κ) (k : κ) : (addK m k).length ≤ m.length + 1 := by
  unfold addK
  by_cases h : k ∈ m
  · rw [if_pos h]; omega
  · rw [if_neg h, List.length_append]; exact Nat.le_refl _
end

/-! ### lists of numbers, of pairs -/
def rLN (l : List Nat) (a : Addr) (H : Hp) : Prop := H a = some (.lst (l.map vN))
def rLP (l : List (Nat × Nat)) (a : Addr) (H : Hp) : Prop := ∃ qs, H a = some (.lst qs) ∧ Paired (fun q v => rPr q v H) l qs
theorem rLN.same {l : List Nat} {a : Addr} {H H' : Hp} (h : rLN l a H) (s : Same H H') : rLN l a H' := s _ _ h
theorem rLP.same {l : List (Nat × Nat)} {a : Addr} {H H' : Hp} (h : rLP l a H) (s : Same H H') : rLP l a H' := by
  obtain ⟨qs, h1, h2⟩ := h
  exact ⟨qs, s _ _ h1, pr_imp h2 fun _ _ _ q => rPr_ts (TS.of s) q⟩
theorem nat_pr (l : List Nat) : Paired (fun n v => v = vN n) l (l.map vN) := pr_map (R := fun n v => v = vN n) (f := vN) (fun _ => rfl) l
/-- all pairs of two lists of numbers, as the flat list of a comprehension -/
theorem flat_prd (xs ys : List Nat) : (xs.flatMap fun a => (ys.filter fun _ => true).map (Prod.mk a)) = prd xs ys := by
  unfold prd
  rw [filter_yes]
/-- the pairs of one letter, lesser first -/
def prs (ls : List Bool) (g : List Nat) : List (Nat × Nat) := g.flatMap fun a => (g.filter fun b => decide (a < b) && decide (ls[a]? = ls[b]?)).map (Prod.mk a)
theorem mem_prs {ls : List Bool} {g : List Nat} {q : Nat × Nat} : q ∈ prs ls g ↔ q.1 ∈ g ∧ q.2 ∈ g ∧ q.1 < q.2 ∧ ls[q.1]? = ls[q.2]? := by
  unfold prs
  rw [List.mem_flatMap]
  constructor
  · rintro ⟨a, ha, h⟩
    obtain ⟨b, hb, rfl⟩ := List.mem_map.mp h
    obtain ⟨h1, h2⟩ := List.mem_filter.mp hb
    rw [Bool.and_eq_true, decide_eq_true_iff, decide_eq_true_iff] at h2
    exact ⟨ha, h1, h2⟩
  · rintro ⟨h1, h2, h3, h4⟩
    refine ⟨q.1, h1, List.mem_map.mpr ⟨q.2, List.mem_filter.mpr ⟨h2, ?_⟩, rfl⟩⟩
    rw [decide_eq_true h3, decide_eq_true h4]
    rfl
theorem len_prs (ls : List Bool) (g : List Nat) : (prs ls g).length ≤ g.length * g.length :=
  len_flat (fun a => by rw [List.length_map]; exact List.length_filter_le _ _) g
end K65
end

section
set_option Elab.async false
set_option linter.all false
set_option maxRecDepth 100000
set_option maxHeartbeats 4000000
/-! The program's expressions: is_leaf, parts_of, letters_of, count_of, has_empty. -/
namespace K65
open PySem L2
open PyProof.Rows (envOfC)

def spLeaf : Sp := fun vs H Q _ => ∃ (e : Ex) (v : V), vs = [v] ∧ rE e v H ∧ ∀ H', Same H H' → Q (.bl (isLf e)) H'
def spParts : Sp := fun vs H Q _ => ∃ (e : Ex) (v : V), vs = [v] ∧ rE e v H ∧ ∀ (p : Addr) (us : List V) (H' : Hp), Same H H' → H' p = some (.tup us) → rEs (parts e) us H' → Q (.ref p) H'
def spLets (n : Nat) : Sp := fun vs H Q _ => ∃ (e : Ex) (v : V) (d : Nat) (o : Option Bool), vs = [v] ∧ n = d + 1 ∧ rE e v H ∧ Good d o e ∧ e.lets.length ≤ 8 ∧ ∀ H', Same H H' → Q (.str (sOf e.lets)) H'
def spCnt (n : Nat) : Sp := fun vs H Q _ => ∃ (e : Ex) (v : V) (d : Nat) (o : Option Bool), vs = [v] ∧ n = d + 1 ∧ rE e v H ∧ Good d o e ∧ ∀ H', Same H H' → Q (.int (e.cnt : Int)) H'
def spHas (n : Nat) : Sp := fun vs H Q _ => ∃ (e : Ex) (v : V) (d : Nat) (o : Option Bool), vs = [v] ∧ n = d + 1 ∧ rE e v H ∧ Good d o e ∧ ∀ H', Same H H' → Q (.bl e.hasE) H'
def ouS : Option Bool → Str
  | none => ""
  | some b => roS b
def spForm (n : Nat) : Sp := fun vs H Q _ => ∃ (e : Ex) (v : V) (d : Nat) (o : Option Bool), vs = [v, .str (ouS o), .int (d : Int)] ∧ n = d + 1 ∧ rE e v H ∧ Good d o e ∧ ∀ H', Same H H' → Q (.bl true) H'
/-- what the judge of form asks of an argument: an expression -/
def ExOk (e : Ex) : Prop := Good 6 none e ∧ e.lets.length ≤ 8 ∧ e.cnt ≤ 24
def spIsEx : Sp := fun vs H Q _ => ∃ (e : Ex) (v : V), vs = [v] ∧ rE e v H ∧ ExOk e ∧ ∀ H', Same H H' → Q (.bl true) H'
def spCheck : Sp := fun vs H Q _ => ∃ (e : Ex) (v : V), vs = [v] ∧ rE e v H ∧ ExOk e ∧ ∀ H', Same H H' → Q .non H'

theorem good_parts : ∀ {d : Nat} {o : Option Bool} {e : Ex}, Good d o e → ∀ x ∈ parts e, ∃ (d' : Nat) (o' : Option Bool), d = d' + 1 ∧ Good d' o' x
  | _, _, .lf _, _, x, hx => by cases hx
  | 0, _, .sg _ _, h, _, _ => h.elim
  | 0, _, .ro _ _, h, _, _ => h.elim
  | d + 1, _, .sg _ e, h, x, hx => by
    rw [List.mem_singleton.mp hx]
    exact ⟨d, _, rfl, h⟩
  | d + 1, _, .ro b es, h, x, hx => ⟨d, some b, rfl, h.2.2.2 x hx⟩
theorem flat_len {x : List Bool} : ∀ {ls : List (List Bool)}, x ∈ ls → x.length ≤ ls.flatten.length
  | l :: r, h => by
    rw [List.flatten_cons, List.length_append]
    rcases List.mem_cons.mp h with e | h
    · rw [e]; omega
    · have := flat_len h; omega
theorem lets_parts (e : Ex) (h : isLf e = false) : e.lets = ((parts e).map Ex.lets).flatten := by
  cases e with
  | lf o => cases h
  | sg m e => show e.lets = [e.lets].flatten; simp
  | ro b es => exact letsL_eq es
theorem parts_len {e x : Ex} (h : x ∈ parts e) : x.lets.length ≤ e.lets.length := by
  have hl : isLf e = false := by
    cases e with
    | lf o => cases h
    | sg m e => rfl
    | ro b es => rfl
  rw [lets_parts e hl]
  exact flat_len (List.mem_map.mpr ⟨x, h, rfl⟩)
theorem cnt_parts (e : Ex) : e.cnt = 1 + ((parts e).map Ex.cnt).sum := by
  cases e with
  | lf o => rfl
  | sg m e => show 1 + e.cnt = 1 + [e.cnt].sum; simp
  | ro b es => show 1 + cntL es = _; rw [cntL_eq]; rfl
theorem few_parts {d : Nat} {o : Option Bool} {e : Ex} (h : Good d o e) : (parts e).length ≤ 6 := by
  cases e with
  | lf o => exact Nat.zero_le _
  | sg m e => exact (by decide : 1 ≤ 6)
  | ro b es =>
    cases d with
    | zero => exact h.elim
    | succ d => exact h.2.2.1
theorem sum_cast : ∀ l : List Nat, (l.map fun (n : Nat) => (n : Int)).sum = (l.sum : Int)
  | [] => rfl
  | a :: r => by rw [List.map_cons, List.sum_cons, List.sum_cons, sum_cast r, Int.natCast_add]

section
variable {P : Program} {w : World} {K : PySem.W.Frag} {mg : Str → Option Value} {base : Heap} {k : Nat} {f : Addr} {fd : FuncData}
abbrev s_is_leaf : Stmt := top 11
theorem sc_is_leaf : FnScope ["value"] ["value"] (defScope s_is_leaf) := ⟨rfl, rfl, rfl, by decide +kernel, rfl, by decide +kernel, by decide +kernel⟩
theorem leaf_abcd (c : Bool) : (!(Builtin.Str.occurrences "abcd" (sOf [c]) 0 ("abcd" : Str).length 1).isEmpty) = true := by cases c <;> decide +kernel
theorem ok_is_leaf (T : Txt K mg) (F : Fun K "is_leaf" "is_leaf" s_is_leaf f fd) : FnOk P w K mg base CX0 (k + 1) f fd ["value"] spLeaf := by
  have nd := sc_is_leaf.nd
  refine F.ok sc_is_leaf (fun vs H Q E h => ?_) (fun cdv A outer s H vs Q E hr h => ?_)
  · obtain ⟨e, v, rfl, _⟩ := h
    rfl
  obtain ⟨e, v, rfl, hv, q⟩ := h
  refine ⟨_, (pss_one (ps_ret (pe_and (pe_callB call_isk (by rfl) T.z_isinstance (by decide +kernel) (pa_cons (pv 0) (pa_cons (pe_bltn (v := .ty "str") (by rfl) T.z_str (by decide +kernel) rfl) pa_nil))) (pe_one (pe_or (pe_cmpR op_eq (pv 0) pe_str (nomark _)) (pe_one (pe_and (pe_cmpR op_eq (pe_callB call_len_str (by rfl) T.z_len (by decide +kernel) (pa_cons (pv 0) pa_nil)) pe_int (nomark _)) (pe_one (pe_cmpR op_in_str (pv 0) (pe_gc T.LETTERS (by rfl)) (by rfl)))))))))), ?_⟩
  obtain ⟨n, kn, kb⟩ := rE_str hv
  refine ⟨_, rfl, _, _, _, _, rfl, kn, kb, _, rfl, ?_⟩
  cases e with
  | lf o =>
    refine iteT ?_
    have hv : v = _ := hv
    subst hv
    refine ⟨_, rfl, rfl, _, rfl, ?_⟩
    cases o with
    | none =>
      have e0 : decide (V.str (sOf (Option.none : Option Bool).toList) = V.str "") = true := by decide +kernel
      rw [e0]
      exact iteT (q _ (Same.refl H))
    | some c =>
      have e0 : decide (V.str (sOf (Option.some c : Option Bool).toList) = V.str "") = false := by cases c <;> decide +kernel
      rw [e0]
      refine iteF ?_
      refine ⟨_, rfl, _, rfl, (by cases c <;> decide), rfl, _, rfl, ?_⟩
      refine iteT ⟨_, rfl, _, _, rfl, rfl, ?_⟩
      show Q (.bl (!(Builtin.Str.occurrences "abcd" (sOf [c]) 0 ("abcd" : Str).length 1).isEmpty)) H
      rw [leaf_abcd]
      exact q _ (Same.refl H)
  | sg m e => exact iteF (q _ (Same.refl H))
  | ro b es => exact iteF (q _ (Same.refl H))

abbrev s_parts_of : Stmt := top 13
theorem sc_parts_of : FnScope ["expression"] ["expression"] (defScope s_parts_of) := ⟨rfl, rfl, rfl, by decide +kernel, rfl, by decide +kernel, by decide +kernel⟩
theorem ok_parts_of (T : Txt K mg) (F : Fun K "parts_of" "parts_of" s_parts_of f fd) : FnOk P w K mg base CX0 (k + 1) f fd ["expression"] spParts := by
  have nd := sc_parts_of.nd
  refine F.ok sc_parts_of (fun vs H Q E h => ?_) (fun cdv A outer s H vs Q E hr h => ?_)
  · obtain ⟨e, v, rfl, _⟩ := h
    rfl
  obtain ⟨e, v, rfl, hv, q⟩ := h
  refine ⟨_, (pss_cons (ps_if (pt_val (pe_callB call_isk (by rfl) T.z_isinstance (by decide +kernel) (pa_cons (pv 0) (pa_cons (pe_bltn (v := .ty "str") (by rfl) T.z_str (by decide +kernel) rfl) pa_nil)))) (pss_one (ps_ret (pe_tup pa_nil))) pss_nil)
      (pss_one (ps_ret (pe_ifExp (pt_cmpR op_in_seq (pe_ix it_tup (pv 0) pe_int (fun _ _ => rfl)) (pe_gt T.SINGLES (by rfl)) (by rfl)) (pe_tup (pa_cons (pe_ix it_tup (pv 0) pe_int (fun _ _ => rfl)) pa_nil)) (pe_ix it_tup (pv 0) pe_int (fun _ _ => rfl)))))), ?_⟩
  obtain ⟨n, kn, kb⟩ := rE_str hv
  refine ⟨_, rfl, _, _, _, _, rfl, kn, kb, _, rfl, ?_⟩
  cases e with
  | lf o => exact iteT ⟨Nat.zero_le _, fun p hp => q p [] _ (same_new hp _) upd_same rfl⟩
  | sg m e =>
    obtain ⟨p, u, rfl, h2, h3⟩ := hv
    refine iteF ⟨_, rfl, _, _, 0, _, rfl, rfl, h2, rfl, fun a ha => ⟨a, _, rfl, .inr (ha _), rfl, rfl, _, rfl, ?_⟩⟩
    rw [if_neg (by decide : ¬ (false = true)), w_single]
    refine iteT ⟨_, rfl, _, _, 1, _, rfl, rfl, h2, rfl, (by show 1 ≤ sizeLine; decide), fun t ht => ?_⟩
    exact q t [u] _ (same_new ht _) upd_same ⟨u, [], rfl, rE_ts (TS.of (same_new ht _)) _ _ h3, rfl⟩
  | ro b es =>
    obtain ⟨p, p2, us, rfl, h2, h3, h4⟩ := hv
    refine iteF ⟨_, rfl, _, _, 0, _, rfl, rfl, h2, rfl, fun a ha => ⟨a, _, rfl, .inr (ha _), rfl, rfl, _, rfl, ?_⟩⟩
    rw [if_neg (by decide : ¬ (false = true)), w_row]
    exact iteF ⟨_, rfl, _, _, 1, _, rfl, rfl, h2, rfl, q p2 us _ (Same.refl H) h3 h4⟩

abbrev s_letters_of : Stmt := top 14
theorem sc_letters_of : FnScope ["expression", "part"] ["expression"] (defScope s_letters_of) := ⟨rfl, rfl, rfl, by decide +kernel, rfl, by decide +kernel, by decide +kernel⟩
theorem ok_letters_of {n : Nat} {psp psl : List Str} (T : Txt K mg) (F : Fun K "letters_of" "letters_of" s_letters_of f fd) (Cparts_of : Cd P w K mg base k "parts_of" psp spParts) (Cletters_of : Cd P w K mg base k "letters_of" psl (spLets n)) :
    FnOk P w K mg base CX0 (k + 1) f fd ["expression"] (spLets (n + 1)) := by
  have nd := sc_letters_of.nd
  refine F.ok sc_letters_of (fun vs H Q E h => ?_) (fun cdv A outer s H vs Q E hr h => ?_)
  · obtain ⟨e, v, d, o, rfl, _⟩ := h
    rfl
  obtain ⟨e, v, d, o, rfl, en, hv, hg, h8, q⟩ := h
  have en : n = d := Nat.succ.inj en
  subst en
  refine ⟨_, (pss_cons (ps_if (pt_val (pe_callB call_isk (by rfl) T.z_isinstance (by decide +kernel) (pa_cons (pv 0) (pa_cons (pe_bltn (v := .ty "str") (by rfl) T.z_str (by decide +kernel) rfl) pa_nil)))) (pss_one (ps_ret (pv 0))) pss_nil)
      (pss_one (ps_ret (pe_join pe_str (pe_lc (own := [("part", 1)]) (g := gName 1) (tt := tYes) rfl nd (pi_U (pe_cd Cparts_of hr (by rfl) (pa_cons (pv 0) pa_nil))) (blkOk_by (own := [("part", 1)]) (by kernel_rfl)) (fun _ _ _ _ _ => pg_name (i := 1) nd rfl (Or.inl rfl)) (fun _ _ _ _ _ => pts_nil) (fun _ _ _ _ _ => (pe_cd Cletters_of hr (by rfl) (pa_cons (pv 1) pa_nil)))))))), ?_⟩
  obtain ⟨n', kn, kb⟩ := rE_str hv
  refine ⟨_, rfl, _, _, _, _, rfl, kn, kb, _, rfl, ?_⟩
  cases hl : isLf e with
  | true =>
    refine iteT ?_
    cases e with
    | lf o =>
      have hv : v = _ := hv
      subst hv
      exact ⟨_, rfl, q _ (Same.refl H)⟩
    | sg m e => cases hl
    | ro b es => cases hl
  | false =>
    refine iteF ⟨⟨_, rfl⟩, _, rfl, e, v, rfl, hv, fun p us H1 s1 hp hus => ⟨p, us, rfl, hp, fun K' D hD => ?_⟩⟩
    refine lc_fun (R := fun x u => rE x u H1) (l := parts e) hD (wk_tup fun H2 s2 => s2 _ _ hp) (rEs_pr hus) (by have := few_parts hg; omega) (fun _ => true) (fun x => .str (sOf x.lets)) (fun x u H2 hx hR s2 Ky Kn k1 _ => ?_) (fun H2 s2 hD2 => ?_)
    · obtain ⟨d', o', e1, g1⟩ := good_parts hg x hx
      exact ⟨rfl, yesT (iteT ⟨_, rfl, x, u, d', o', rfl, e1, rE_ts (TS.of s2) _ _ hR, g1, Nat.le_trans (parts_len hx) h8, fun H3 s3 => k1 H3 rfl s3⟩)⟩
    · rw [filter_yes] at hD2
      have e1 : (parts e).map (fun x => V.str (sOf x.lets)) = (((parts e).map Ex.lets).map sOf).map V.str := by
        rw [List.map_map, List.map_map]; rfl
      rw [e1] at hD2
      refine ⟨_, D, _, rfl, rfl, .inl (SqL.of hD2), ?_, ?_⟩
      · rw [sum_len, ← lets_parts e hl]
        have e0 : ("" : Str).length = 0 := by decide +kernel
        rw [e0, Nat.mul_zero]
        omega
      · rw [join_sOf, ← lets_parts e hl]
        exact q _ (s1.trans s2)

abbrev s_count_of : Stmt := top 15
theorem sc_count_of : FnScope ["expression", "part"] ["expression"] (defScope s_count_of) := ⟨rfl, rfl, rfl, by decide +kernel, rfl, by decide +kernel, by decide +kernel⟩
theorem ok_count_of {n : Nat} {psp psl : List Str} (T : Txt K mg) (F : Fun K "count_of" "count_of" s_count_of f fd) (Cparts_of : Cd P w K mg base k "parts_of" psp spParts) (Ccount_of : Cd P w K mg base k "count_of" psl (spCnt n)) :
    FnOk P w K mg base CX0 (k + 1) f fd ["expression"] (spCnt (n + 1)) := by
  have nd := sc_count_of.nd
  refine F.ok sc_count_of (fun vs H Q E h => ?_) (fun cdv A outer s H vs Q E hr h => ?_)
  · obtain ⟨e, v, d, o, rfl, _⟩ := h
    rfl
  obtain ⟨e, v, d, o, rfl, en, hv, hg, q⟩ := h
  have en : n = d := Nat.succ.inj en
  subst en
  refine ⟨_, (pss_one (ps_ret (pe_op op_add pe_int (pe_callB (cr_sum2 rfl) (by rfl) T.z_sum (by decide +kernel) (pa_cons (pe_lc (own := [("part", 1)]) (g := gName 1) (tt := tYes) rfl nd (pi_U (pe_cd Cparts_of hr (by rfl) (pa_cons (pv 0) pa_nil))) (blkOk_by (own := [("part", 1)]) (by kernel_rfl)) (fun _ _ _ _ _ => pg_name (i := 1) nd rfl (Or.inl rfl)) (fun _ _ _ _ _ => pts_nil) (fun _ _ _ _ _ => (pe_cd Ccount_of hr (by rfl) (pa_cons (pv 1) pa_nil)))) pa_nil))))), ?_⟩
  refine ⟨_, rfl, e, v, rfl, hv, fun p us H1 s1 hp hus => ⟨p, us, rfl, hp, fun K' D hD => ?_⟩⟩
  refine lc_fun (R := fun x u => rE x u H1) (l := parts e) hD (wk_tup fun H2 s2 => s2 _ _ hp) (rEs_pr hus) (by have := few_parts hg; omega) (fun _ => true) (fun x => .int (x.cnt : Int)) (fun x u H2 hx hR s2 Ky Kn k1 _ => ?_) (fun H2 s2 hD2 => ?_)
  · obtain ⟨d', o', e1, g1⟩ := good_parts hg x hx
    exact ⟨rfl, yesT (iteT ⟨_, rfl, x, u, d', o', rfl, e1, rE_ts (TS.of s2) _ _ hR, g1, fun H3 s3 => k1 H3 rfl s3⟩)⟩
  · rw [filter_yes] at hD2
    have e1 : (parts e).map (fun x => V.int (x.cnt : Int)) = (((parts e).map Ex.cnt).map fun (n : Nat) => (n : Int)).map V.int := by
      rw [List.map_map, List.map_map]; rfl
    rw [e1] at hD2
    refine ⟨D, _, rfl, hD2, _, _, rfl, rfl, ?_⟩
    have e2 : (1 : Int) + (((parts e).map Ex.cnt).map fun (n : Nat) => (n : Int)).sum = (e.cnt : Int) := by
      rw [sum_cast, cnt_parts e, Int.natCast_add]; rfl
    show Q (V.int (1 + (((parts e).map Ex.cnt).map fun (n : Nat) => (n : Int)).sum)) H2
    rw [e2]
    exact q _ (s1.trans s2)

abbrev s_has_empty : Stmt := top 18
theorem sc_has_empty : FnScope ["expression", "told", "part"] ["expression"] (defScope s_has_empty) := ⟨rfl, rfl, rfl, by decide +kernel, rfl, by decide +kernel, by decide +kernel⟩
theorem ok_has_empty {n : Nat} {psl : List Str} (T : Txt K mg) (F : Fun K "has_empty" "has_empty" s_has_empty f fd) (Chas_empty : Cd P w K mg base k "has_empty" psl (spHas n)) :
    FnOk P w K mg base CX0 (k + 1) f fd ["expression"] (spHas (n + 1)) := by
  have nd := sc_has_empty.nd
  refine F.ok sc_has_empty (fun vs H Q E h => ?_) (fun cdv A outer s H vs Q E hr h => ?_)
  · obtain ⟨e, v, d, o, rfl, _⟩ := h
    rfl
  obtain ⟨e, v, d, o, rfl, en, hv, hg, q⟩ := h
  have en : n = d := Nat.succ.inj en
  subst en
  refine ⟨_, (pss_cons (ps_if (pt_val (pe_callB call_isk (by rfl) T.z_isinstance (by decide +kernel) (pa_cons (pv 0) (pa_cons (pe_bltn (v := .ty "str") (by rfl) T.z_str (by decide +kernel) rfl) pa_nil)))) (pss_one (ps_ret (pe_cmpR op_eq (pv 0) pe_str (nomark _)))) pss_nil)
      (pss_cons (ps_if (pt_cmpR op_in_seq (pe_ix it_tup (pv 0) pe_int (fun _ _ => rfl)) (pe_gt T.SINGLES (by rfl)) (by rfl)) (pss_one (ps_ret pe_bl)) pss_nil)
      (pss_cons (ps_setLc (own := [("part", 2)]) (g := gName 2) (tt := tYes) (i := 1) rfl nd rfl rfl (sw_true rfl rfl rfl (by decide +kernel)) (pi_U (pe_ix it_tup (pv 0) pe_int (fun _ _ => rfl))) (blkOk_by (own := [("part", 2)]) (by kernel_rfl)) (fun _ _ _ _ _ => pg_name (i := 2) nd rfl (Or.inl rfl)) (fun _ _ _ _ _ => pts_nil) (fun _ _ _ _ _ => (pe_cd Chas_empty hr (by rfl) (pa_cons (pv 2) pa_nil))))
      (pss_one (ps_ret (pe_ifExp (pt_cmpR op_eq (pe_ix it_tup (pv 0) pe_int (fun _ _ => rfl)) pe_str (nomark _)) (pe_callB (cr_all2 rfl) (by rfl) T.z_all (by decide +kernel) (pa_cons (pv 1) pa_nil)) (pe_callB (cr_any2 rfl) (by rfl) T.z_any (by decide +kernel) (pa_cons (pv 1) pa_nil)))))))), ?_⟩
  obtain ⟨n', kn, kb⟩ := rE_str hv
  refine ⟨_, rfl, _, _, _, _, rfl, kn, kb, _, rfl, ?_⟩
  cases e with
  | lf o =>
    have hv : v = _ := hv
    subst hv
    refine iteT ⟨_, rfl, rfl, ?_⟩
    have e0 : decide (V.str (sOf o.toList) = V.str "") = o.isNone := by
      cases o with
      | none => decide +kernel
      | some c => cases c <;> decide +kernel
    show Q (.bl (decide (V.str (sOf o.toList) = V.str ""))) H
    rw [e0]
    exact q _ (Same.refl H)
  | sg m e =>
    obtain ⟨p, u, rfl, h2, h3⟩ := hv
    refine iteF ⟨_, rfl, _, _, 0, _, rfl, rfl, h2, rfl, fun a ha => ⟨a, _, rfl, .inr (ha _), rfl, rfl, _, rfl, ?_⟩⟩
    rw [if_neg (by decide : ¬ (false = true)), w_single]
    exact iteT (q _ (Same.refl H))
  | ro b es =>
    obtain ⟨p, p2, us, rfl, h2, h3, h4⟩ := hv
    refine iteF ⟨_, rfl, _, _, 0, _, rfl, rfl, h2, rfl, fun a ha => ⟨a, _, rfl, .inr (ha _), rfl, rfl, _, rfl, ?_⟩⟩
    rw [if_neg (by decide : ¬ (false = true)), w_row]
    refine iteF ⟨_, rfl, _, _, 1, _, rfl, rfl, h2, rfl, p2, us, rfl, h3, fun K' D hD => ?_⟩
    refine lc_fun (R := fun x u => rE x u H) (l := es) hD (wk_tup fun H2 s2 => s2 _ _ h3) (rEs_pr h4) (by have := few_parts hg; exact Nat.lt_of_le_of_lt this (by decide)) (fun _ => true) (fun x => .bl x.hasE) (fun x u H2 hx hR s2 Ky Kn k1 _ => ?_) (fun H2 s2 hD2 => ?_)
    · obtain ⟨d', o', e1, g1⟩ := good_parts hg x hx
      exact ⟨rfl, yesT (iteT ⟨_, rfl, x, u, d', o', rfl, e1, rE_ts (TS.of s2) _ _ hR, g1, fun H3 s3 => k1 H3 rfl s3⟩)⟩
    · rw [filter_yes] at hD2
      have e1 : es.map (fun x => V.bl x.hasE) = (es.map Ex.hasE).map V.bl := by rw [List.map_map]; rfl
      rw [e1] at hD2
      refine ⟨_, rfl, _, _, 0, _, rfl, rfl, s2 _ _ h2, rfl, rfl, _, rfl, ?_⟩
      rw [w_join]
      cases b with
      | true =>
        refine iteF ⟨_, rfl, D, _, rfl, hD2, ?_⟩
        rw [← anyE_eq]
        exact q _ s2
      | false =>
        refine iteT ⟨_, rfl, D, _, rfl, hD2, ?_⟩
        rw [← allE_eq]
        exact q _ s2

abbrev s_has_form : Stmt := top 12
theorem sc_has_form : FnScope ["value", "outer", "deep", "part"] ["value", "outer", "deep"] (defScope s_has_form) := ⟨rfl, rfl, rfl, by decide +kernel, rfl, by decide +kernel, by decide +kernel⟩
theorem ok_has_form {n : Nat} {psl psf : List Str} (T : Txt K mg) (F : Fun K "has_form" "has_form" s_has_form f fd) (Cis_leaf : Cd P w K mg base k "is_leaf" psl spLeaf) (Chas_form : Cd P w K mg base k "has_form" psf (spForm n)) :
    FnOk P w K mg base CX0 (k + 1) f fd ["value", "outer", "deep"] (spForm (n + 1)) := by
  have nd := sc_has_form.nd
  refine F.ok sc_has_form (fun vs H Q E h => ?_) (fun cdv A outer s H vs Q E hr h => ?_)
  · obtain ⟨e, v, d, o, rfl, _⟩ := h
    rfl
  obtain ⟨e, v, d, o, rfl, en, hv, hg, q⟩ := h
  have en : n = d := Nat.succ.inj en
  subst en
  refine ⟨_, (pss_cons (ps_if (pt_val (pe_cd Cis_leaf hr (by rfl) (pa_cons (pv 0) pa_nil))) (pss_one (ps_ret pe_bl)) pss_nil)
      (pss_cons (ps_if (PW.pt (pw_or (pt_cmpR op_eq (pv 2) pe_int (nomark _)) (pw_or (pt_not (pt_val (pe_callB call_isk (by rfl) T.z_isinstance (by decide +kernel) (pa_cons (pv 0) (pa_cons (pe_bltn (v := .ty "tuple") (by rfl) T.z_tuple (by decide +kernel) rfl) pa_nil))))) (pw_or (pt_cmpR op_ne (pe_callB call_len2 (by rfl) T.z_len (by decide +kernel) (pa_cons (pv 0) pa_nil)) pe_int (nomark _)) (pw_or1 (pt_not (pt_val (pe_callB call_isk (by rfl) T.z_isinstance (by decide +kernel) (pa_cons (pe_ix it_tup (pv 0) pe_int (fun _ _ => rfl)) (pa_cons (pe_bltn (v := .ty "str") (by rfl) T.z_str (by decide +kernel) rfl) pa_nil)))))))))) (pss_one (ps_ret pe_bl)) pss_nil)
      (pss_cons (ps_if (pt_cmpR op_in_seq (pe_ix it_tup (pv 0) pe_int (fun _ _ => rfl)) (pe_gt T.SINGLES (by rfl)) (by rfl)) (pss_one (ps_ret (pe_cd Chas_form hr (by rfl) (pa_cons (pe_ix it_tup (pv 0) pe_int (fun _ _ => rfl)) (pa_cons pe_str (pa_cons (pe_op op_sub (pv 2) pe_int) pa_nil)))))) pss_nil)
      (pss_cons (ps_if (PW.pt (pw_or (pt_cmpR op_notIn_seq (pe_ix it_tup (pv 0) pe_int (fun _ _ => rfl)) (pe_gt T.ROWS (by rfl)) (by rfl)) (pw_or (pt_cmpR op_eq (pe_ix it_tup (pv 0) pe_int (fun _ _ => rfl)) (pv 1) (nomark _)) (pw_or1 (pt_not (pt_val (pe_callB call_isk (by rfl) T.z_isinstance (by decide +kernel) (pa_cons (pe_ix it_tup (pv 0) pe_int (fun _ _ => rfl)) (pa_cons (pe_bltn (v := .ty "tuple") (by rfl) T.z_tuple (by decide +kernel) rfl) pa_nil))))))))) (pss_one (ps_ret pe_bl)) pss_nil)
      (pss_cons (ps_if (pt_not (pt_chain op_le op_le pe_int (pe_callB call_len2 (by rfl) T.z_len (by decide +kernel) (pa_cons (pe_ix it_tup (pv 0) pe_int (fun _ _ => rfl)) pa_nil)) (pe_gc T.MOST_LONG_PARTS (by rfl)))) (pss_one (ps_ret pe_bl)) pss_nil)
      (pss_one (ps_ret (pe_callB (cr_all2 rfl) (by rfl) T.z_all (by decide +kernel) (pa_cons (pe_lc (own := [("part", 3)]) (g := gName 3) (tt := tYes) rfl nd (pi_U (pe_ix it_tup (pv 0) pe_int (fun _ _ => rfl))) (blkOk_by (own := [("part", 3)]) (by kernel_rfl)) (fun _ _ _ _ _ => pg_name (i := 3) nd rfl (Or.inl rfl)) (fun _ _ _ _ _ => pts_nil) (fun _ _ _ _ _ => (pe_cd Chas_form hr (by rfl) (pa_cons (pv 3) (pa_cons (pe_ix it_tup (pv 0) pe_int (fun _ _ => rfl)) (pa_cons (pe_op op_sub (pv 2) pe_int) pa_nil)))))) pa_nil))))))))), ?_⟩
  refine ⟨_, rfl, e, v, rfl, hv, fun H1 s1 => ⟨_, rfl, ?_⟩⟩
  cases e with
  | lf o => exact iteT (q _ s1)
  | sg m e =>
    cases n with
    | zero => exact hg.elim
    | succ d =>
      obtain ⟨p, u, rfl, h2, h3⟩ := rE_ts (TS.of s1) _ _ hv
      have e0 : decide (V.int ((d + 1 : Nat) : Int) = V.int 0) = false := decide_eq_false (by intro z; injection z with z; omega)
      refine iteF ⟨_, rfl, rfl, _, rfl, ?_⟩
      rw [e0]
      refine iteF ⟨_, rfl, _, _, _, _, rfl, .tup h2, k_uu, _, rfl, iteF ⟨_, rfl, p, _, rfl, .inr h2, rfl, _, rfl, ?_⟩⟩
      refine iteF ⟨_, rfl, _, _, 0, _, rfl, rfl, h2, rfl, _, _, _, _, rfl, .str _, k_ss, _, rfl, iteF ?_⟩
      refine ⟨_, rfl, _, _, 0, _, rfl, rfl, h2, rfl, fun a ha => ⟨a, _, rfl, .inr (ha _), rfl, rfl, _, rfl, ?_⟩⟩
      rw [if_neg (by decide : ¬ (false = true)), w_single]
      refine iteT ⟨_, rfl, _, _, 1, _, rfl, rfl, h2, rfl, _, rfl, _, _, rfl, rfl, ?_⟩
      have e1 : ((d + 1 : Nat) : Int) - 1 = (d : Int) := by omega
      exact ⟨e, u, d, none, by show [u, V.str "", V.int (((d + 1 : Nat) : Int) - 1)] = _; rw [e1]; rfl, rfl, h3, hg, fun H2 s2 => q _ (s1.trans s2)⟩
  | ro b es =>
    cases n with
    | zero => exact hg.elim
    | succ d =>
      obtain ⟨p, p2, us, rfl, h2, h3, h4⟩ := rE_ts (TS.of s1) _ _ hv
      obtain ⟨g1, g2, g3, g4⟩ := hg
      have hus : us.length = es.length := (rEs_pr h4).length.symm
      have e0 : decide (V.int ((d + 1 : Nat) : Int) = V.int 0) = false := decide_eq_false (by intro z; injection z with z; omega)
      refine iteF ⟨_, rfl, rfl, _, rfl, ?_⟩
      rw [e0]
      refine iteF ⟨_, rfl, _, _, _, _, rfl, .tup h2, k_uu, _, rfl, iteF ⟨_, rfl, p, _, rfl, .inr h2, rfl, _, rfl, ?_⟩⟩
      refine iteF ⟨_, rfl, _, _, 0, _, rfl, rfl, h2, rfl, _, _, _, _, rfl, .str _, k_ss, _, rfl, iteF ?_⟩
      refine ⟨_, rfl, _, _, 0, _, rfl, rfl, h2, rfl, fun a ha => ⟨a, _, rfl, .inr (ha _), rfl, rfl, _, rfl, ?_⟩⟩
      rw [if_neg (by decide : ¬ (false = true)), w_row]
      refine iteF ⟨_, rfl, _, _, 0, _, rfl, rfl, h2, rfl, fun a ha => ⟨a, _, rfl, .inr (ha _), rfl, rfl, _, rfl, ?_⟩⟩
      rw [if_pos rfl, w_rowR]
      have e2 : decide (V.str (roS b) = V.str (ouS o)) = false := by
        cases o with
        | none => cases b <;> decide +kernel
        | some c =>
          cases b <;> cases c <;> first | exact absurd rfl g1 | decide +kernel
      refine iteF ⟨_, rfl, _, _, 0, _, rfl, rfl, h2, rfl, _, rfl, rfl, _, rfl, ?_⟩
      rw [e2]
      refine iteF ⟨_, rfl, _, _, 1, _, rfl, rfl, h2, rfl, _, _, _, _, rfl, .tup h3, k_uu, _, rfl, iteF ?_⟩
      have e3 : decide ((2 : Int) ≤ (us.length : Int)) = true := decide_eq_true (by omega)
      have e4 : decide ((us.length : Int) ≤ 200) = true := decide_eq_true (by omega)
      refine ⟨_, rfl, _, _, 1, _, rfl, rfl, h2, rfl, p2, us, rfl, .inr h3, _, _, rfl, rfl, _, rfl, ?_⟩
      rw [e3]
      refine iteT ⟨_, _, rfl, rfl, _, rfl, ?_⟩
      rw [e4]
      refine iteF ⟨_, rfl, _, _, 1, _, rfl, rfl, h2, rfl, p2, us, rfl, h3, fun K' D hD => ?_⟩
      refine lc_fun (R := fun x u => rE x u H1) (l := es) hD (wk_tup fun H2 s2 => s2 _ _ h3) (rEs_pr h4) (by omega) (fun _ => true) (fun x => .bl true) (fun x u H2 hx hR s2 Ky Kn k1 _ => ?_) (fun H2 s2 hD2 => ?_)
      · have e1 : ((d + 1 : Nat) : Int) - 1 = (d : Int) := by omega
        refine ⟨rfl, yesT (iteT ⟨_, rfl, _, rfl, _, _, 0, _, rfl, rfl, s2 _ _ h2, rfl, _, rfl, _, _, rfl, rfl, ?_⟩)⟩
        exact ⟨x, u, d, some b, by show [u, V.str (roS b), V.int (((d + 1 : Nat) : Int) - 1)] = _; rw [e1]; rfl, rfl, rE_ts (TS.of s2) _ _ hR, g4 x hx, fun H3 s3 => k1 H3 rfl s3⟩
      · rw [filter_yes] at hD2
        have e5 : es.map (fun _ => V.bl true) = (es.map fun _ => true).map V.bl := by rw [List.map_map]; rfl
        rw [e5] at hD2
        refine ⟨D, _, rfl, hD2, ?_⟩
        have e6 : (es.map fun _ => true).all id = true := by rw [List.all_map]; exact List.all_eq_true.mpr fun _ _ => rfl
        rw [e6]
        exact q _ (s1.trans s2)

abbrev s_is_expression : Stmt := top 16
theorem sc_is_expression : FnScope ["value"] ["value"] (defScope s_is_expression) := ⟨rfl, rfl, rfl, by decide +kernel, rfl, by decide +kernel, by decide +kernel⟩
theorem ok_is_expression {ps1 ps2 ps3 : List Str} (T : Txt K mg) (F : Fun K "is_expression" "is_expression" s_is_expression f fd) (Chas_form : Cd P w K mg base k "has_form" ps1 (spForm 7)) (Ccount_of : Cd P w K mg base k "count_of" ps2 (spCnt 7)) (Cletters_of : Cd P w K mg base k "letters_of" ps3 (spLets 7)) :
    FnOk P w K mg base CX0 (k + 1) f fd ["value"] spIsEx := by
  have nd := sc_is_expression.nd
  refine F.ok sc_is_expression (fun vs H Q E h => ?_) (fun cdv A outer s H vs Q E hr h => ?_)
  · obtain ⟨e, v, rfl, _⟩ := h
    rfl
  obtain ⟨e, v, rfl, hv, ⟨hg, h8, h24⟩, q⟩ := h
  refine ⟨_, (pss_cons (ps_if (pt_not (pt_val (pe_cd Chas_form hr (by rfl) (pa_cons (pv 0) (pa_cons pe_str (pa_cons (pe_gc T.DEEPEST (by rfl)) pa_nil)))))) (pss_one (ps_ret pe_bl)) pss_nil)
      (pss_one (ps_ret (pe_and (pe_cmpR op_le (pe_callB call_len_str (by rfl) T.z_len (by decide +kernel) (pa_cons (pe_cd Cletters_of hr (by rfl) (pa_cons (pv 0) pa_nil)) pa_nil)) (pe_gc T.MOST_LETTERS (by rfl)) (nomark _)) (pe_one (pe_cmpR op_le (pe_cd Ccount_of hr (by rfl) (pa_cons (pv 0) pa_nil)) (pe_gc T.MOST_PARTS (by rfl)) (nomark _))))))), ?_⟩
  refine ⟨_, rfl, e, v, 6, none, rfl, rfl, hv, hg, fun H1 s1 => ⟨_, rfl, iteF ?_⟩⟩
  have hv1 := rE_ts (TS.of s1) _ _ hv
  refine ⟨_, rfl, e, v, 6, none, rfl, rfl, hv1, hg, h8, fun H2 s2 => ?_⟩
  have e1 : decide (((sOf e.lets).length : Int) ≤ 8) = true := decide_eq_true (by rw [sOf_len]; omega)
  refine ⟨_, rfl, (by rw [sOf_len]; exact Nat.le_trans h8 (by decide)), _, _, rfl, rfl, _, rfl, ?_⟩
  rw [e1]
  refine iteT ⟨_, rfl, e, v, 6, none, rfl, rfl, rE_ts (TS.of s2) _ _ hv1, hg, fun H3 s3 => ⟨_, _, rfl, rfl, ?_⟩⟩
  have e2 : decide ((e.cnt : Int) ≤ 24) = true := decide_eq_true (by omega)
  show Q (V.bl (decide ((e.cnt : Int) ≤ 24))) H3
  rw [e2]
  exact q _ (s1.trans (s2.trans s3))

abbrev s_check_expression : Stmt := top 17
theorem sc_check_expression : FnScope ["value"] ["value"] (defScope s_check_expression) := ⟨rfl, rfl, rfl, by decide +kernel, rfl, by decide +kernel, by decide +kernel⟩
theorem ok_check_expression {ps1 : List Str} (T : Txt K mg) (F : Fun K "check_expression" "check_expression" s_check_expression f fd) (Cis_expression : Cd P w K mg base k "is_expression" ps1 spIsEx) :
    FnOk P w K mg base CX0 (k + 1) f fd ["value"] spCheck := by
  have nd := sc_check_expression.nd
  refine F.ok sc_check_expression (fun vs H Q E h => ?_) (fun cdv A outer s H vs Q E hr h => ?_)
  · obtain ⟨e, v, rfl, _⟩ := h
    rfl
  obtain ⟨e, v, rfl, hv, hx, q⟩ := h
  refine ⟨_, (pss_one (ps_if (pt_not (pt_val (pe_cd Cis_expression hr (by rfl) (pa_cons (pv 0) pa_nil)))) (pss_one ps_never) pss_nil)), ?_⟩
  exact ⟨_, rfl, e, v, rfl, hv, hx, fun H1 s1 => ⟨_, rfl, iteF (q _ s1)⟩⟩
end
end K65
end

section
set_option Elab.async false
set_option linter.all false
set_option maxRecDepth 100000
set_option maxHeartbeats 4000000
/-! The program's gathered. -/
namespace K65
open PySem L2
open PyProof.Rows (envOfC)

structure GAt (g : G) (f l p : Addr) (H : Hp) : Prop where
  f : rLN g.f f H
  l : rLN g.l l H
  p : rLP g.p p H
theorem GAt.same {g : G} {f l p : Addr} {H H' : Hp} (h : GAt g f l p H) (s : Same H H') : GAt g f l p H' := ⟨h.f.same s, h.l.same s, h.p.same s⟩
def spGath (n : Nat) : Sp := fun vs H Q _ => ∃ (e : Ex) (v : V) (d st : Nat) (o : Option Bool), vs = [v, vN st] ∧ n = d + 1 ∧ rE e v H ∧ Good d o e ∧ e.lets.length ≤ 8 ∧ d ≤ 6 ∧
  ∀ (t f l p : Addr) (H' : Hp), Same H H' → H' t = some (.tup [.ref f, .ref l, .ref p]) → GAt (gath e st) f l p H' → Q (.ref t) H'

/-- [(one, other) for one in xs for other in ys], read: a new list of the pairs -/
theorem prd_stab {D : Addr} {q : Nat × Nat} {y : V} {H : Hp} {n n' : List V} (h : H D = some (.lst n)) (r : rPr q y H) : rPr q y (upd H D (.lst n')) := rPr_ts (TS.upd h) r

/-- x if c else [], read: some list -/
theorem if_new {c : Bool} {σ : St} {i : Nat} {a : Addr} {xs : List V} {H : Hp} {Q : VK} (h : σ[i]? = some (some (.ref a))) (ha : H a = some (.lst xs)) (k : ∀ z H', Same H H' → H' z = some (.lst (if c = true then xs else [])) → Q (.ref z) H') :
    if c = true then tVar i σ H Q else tLst tNil σ H Q := by
  cases c with
  | true => exact iteT ⟨_, h, k a H (Same.refl H) ha⟩
  | false => exact iteF ⟨Nat.zero_le _, fun z hz => k z _ (same_new hz _) upd_same⟩

section
variable {P : Program} {w : World} {K : PySem.W.Frag} {mg : Str → Option Value} {base : Heap} {k : Nat} {f : Addr} {fd : FuncData}
abbrev s_gathered : Stmt := top 20
theorem sc_gathered : FnScope ["expression", "start", "places", "firsts", "lasts", "pairs", "more", "at", "empty", "part", "first", "last", "own", "one", "other"] ["expression", "start"] (defScope s_gathered) := ⟨rfl, rfl, rfl, by decide +kernel, rfl, by decide +kernel, by decide +kernel⟩
theorem ok_gathered {n : Nat} {ps1 ps2 ps3 ps4 : List Str} (hn : n ≤ 7) (T : Txt K mg) (F : Fun K "gathered" "gathered" s_gathered f fd) (Cgathered : Cd P w K mg base k "gathered" ps1 (spGath n)) (Cparts_of : Cd P w K mg base k "parts_of" ps2 spParts)
    (Cletters_of : Cd P w K mg base k "letters_of" ps3 (spLets n)) (Chas_empty : Cd P w K mg base k "has_empty" ps4 (spHas n)) :
    FnOk P w K mg base CX0 (k + 1) f fd ["expression", "start"] (spGath (n + 1)) := by
  have nd := sc_gathered.nd
  refine F.ok sc_gathered (fun vs H Q E h => ?_) (fun cdv A outer s H vs Q E hr h => ?_)
  · obtain ⟨e, v, d, st, o, rfl, _⟩ := h
    rfl
  obtain ⟨e, v, d, st, o, rfl, en, hv, hg, h8, hd6, q⟩ := h
  have en : n = d := Nat.succ.inj en
  subst en
  refine ⟨_, (pss_cons (ps_if (pt_val (pe_callB call_isk (by rfl) T.z_isinstance (by decide +kernel) (pa_cons (pv 0) (pa_cons (pe_bltn (v := .ty "str") (by rfl) T.z_str (by decide +kernel) rfl) pa_nil)))) (pss_cons (ps_set (i := 2) nd rfl (Or.inl rfl) (pe_ifExp (pt_tru (pv 0)) (pe_lst (pa_cons (pv 1) pa_nil)) (pe_lst pa_nil)))
        (pss_one (ps_ret (pe_tup (pa_cons (pv 2) (pa_cons (pv 2) (pa_cons (pe_lst pa_nil) pa_nil))))))) pss_nil)
      (pss_cons (ps_if (pt_cmpR op_inT (pe_ix it_tup (pv 0) pe_int (fun _ _ => rfl)) (pe_tup (pa_cons pe_str (pa_cons pe_str pa_nil))) (by rfl)) (pss_cons (ps_asg (pe_cd Cgathered hr (by rfl) (pa_cons (pe_ix it_tup (pv 0) pe_int (fun _ _ => rfl)) (pa_cons (pv 1) pa_nil))) (pg_U (n := 3) rfl (pgs_cons (pg_name (i := 3) nd rfl (Or.inr rfl)) (pgs_cons (pg_name (i := 4) nd rfl (Or.inl rfl)) (pgs_cons (pg_name (i := 5) nd rfl (Or.inl rfl)) pgs_nil)))))
        (pss_cons (ps_set (i := 6) nd rfl (Or.inl rfl) (pe_ifExp (pt_cmpR op_eq (pe_ix it_tup (pv 0) pe_int (fun _ _ => rfl)) pe_str (nomark _)) (pe_lc2 (own := [("one", 13), ("other", 14)]) (vs1 := [14]) rfl nd (pi_L (pv 4)) (blkOk_by (own := [("one", 13), ("other", 14)]) (by kernel_rfl)) (by decide) (fun _ _ _ _ _ => pg_name (i := 13) nd rfl (Or.inl rfl)) (fun _ _ _ _ _ => pts_nil) (fun _ _ _ _ _ => (pi_L (pv 3))) (fun _ _ _ _ _ => pg_name (i := 14) nd rfl (Or.inl rfl)) (fun _ _ _ _ _ => pts_nil) (fun _ _ _ _ _ => (pe_tup (pa_cons (pv 13) (pa_cons (pv 14) pa_nil))))) (pe_lst pa_nil)))
        (pss_one (ps_ret (pe_tup (pa_cons (pv 3) (pa_cons (pv 4) (pa_cons (pe_op op_cat (pv 5) (pv 6)) pa_nil)))))))) pss_nil)
      (pss_cons (ps_asg (pe_tup (pa_cons (pe_lst pa_nil) (pa_cons (pe_lst pa_nil) (pa_cons (pe_lst pa_nil) pa_nil)))) (pg_U (n := 3) rfl (pgs_cons (pg_name (i := 3) nd rfl (Or.inr rfl)) (pgs_cons (pg_name (i := 4) nd rfl (Or.inl rfl)) (pgs_cons (pg_name (i := 5) nd rfl (Or.inl rfl)) pgs_nil)))))
      (pss_cons (ps_set (i := 7) nd rfl (Or.inl rfl) (pv 1))
      (pss_cons (ps_set (i := 8) nd rfl (Or.inl rfl) pe_bl)
      (pss_cons (ps_for PassesOwn.never rfl (pi_U (pe_cd Cparts_of hr (by rfl) (pa_cons (pv 0) pa_nil))) (pg_name (i := 9) nd rfl (Or.inl rfl)) (pss_cons (ps_asg (pe_cd Cgathered hr (by rfl) (pa_cons (pv 9) (pa_cons (pv 7) pa_nil))) (pg_U (n := 3) rfl (pgs_cons (pg_name (i := 10) nd rfl (Or.inr rfl)) (pgs_cons (pg_name (i := 11) nd rfl (Or.inl rfl)) (pgs_cons (pg_name (i := 12) nd rfl (Or.inl rfl)) pgs_nil)))))
        (pss_cons (ps_set (i := 7) nd rfl (Or.inl rfl) (pe_op op_add (pv 7) (pe_callB call_len_str (by rfl) T.z_len (by decide +kernel) (pa_cons (pe_cd Cletters_of hr (by rfl) (pa_cons (pv 9) pa_nil)) pa_nil))))
        (pss_cons (ps_set (i := 5) nd rfl (Or.inl rfl) (pe_op op_cat (pv 5) (pv 12)))
        (pss_one (ps_if (pt_cmpR op_eq (pe_ix it_tup (pv 0) pe_int (fun _ _ => rfl)) pe_str (nomark _)) (pss_cons (ps_set (i := 3) nd rfl (Or.inr rfl) (pe_op op_cat (pv 3) (pv 10)))
          (pss_one (ps_set (i := 4) nd rfl (Or.inl rfl) (pe_op op_cat (pv 4) (pv 11))))) (pss_cons (ps_set (i := 5) nd rfl (Or.inl rfl) (pe_op op_cat (pv 5) (pe_lc2 (own := [("one", 13), ("other", 14)]) (vs1 := [14]) rfl nd (pi_L (pv 4)) (blkOk_by (own := [("one", 13), ("other", 14)]) (by kernel_rfl)) (by decide) (fun _ _ _ _ _ => pg_name (i := 13) nd rfl (Or.inl rfl)) (fun _ _ _ _ _ => pts_nil) (fun _ _ _ _ _ => (pi_L (pv 10))) (fun _ _ _ _ _ => pg_name (i := 14) nd rfl (Or.inl rfl)) (fun _ _ _ _ _ => pts_nil) (fun _ _ _ _ _ => (pe_tup (pa_cons (pv 13) (pa_cons (pv 14) pa_nil)))))))
          (pss_cons (ps_set (i := 3) nd rfl (Or.inr rfl) (pe_op op_cat (pv 3) (pe_ifExp (pt_val (pv 8)) (pv 10) (pe_lst pa_nil))))
          (pss_cons (ps_set (i := 4) nd rfl (Or.inl rfl) (pe_op op_cat (pv 11) (pe_ifExp (pt_val (pe_cd Chas_empty hr (by rfl) (pa_cons (pv 9) pa_nil))) (pv 4) (pe_lst pa_nil))))
          (pss_one (ps_set (i := 8) nd rfl (Or.inl rfl) (pe_and (pv 8) (pe_one (pe_cd Chas_empty hr (by rfl) (pa_cons (pv 9) pa_nil)))))))))))))))
      (pss_one (ps_ret (pe_tup (pa_cons (pv 3) (pa_cons (pv 4) (pa_cons (pv 5) pa_nil)))))))))))), ?_⟩
  obtain ⟨n', kn, kb⟩ := rE_str hv
  refine ⟨_, rfl, _, _, _, _, rfl, kn, kb, _, rfl, ?_⟩
  cases e with
  | lf x =>
    have hv : v = _ := hv
    subst hv
    refine iteT ⟨_, rfl, _, ⟨by rw [sOf_len]; exact Nat.le_trans h8 (by decide), rfl⟩, ?_⟩
    cases x with
    | none =>
      have e0 : ((((sOf (Option.none : Option Bool).toList).length : Nat) : Int) != 0) = false := by decide +kernel
      rw [e0]
      refine iteF ⟨Nat.zero_le _, fun a ha => ⟨_, rfl, _, rfl, Nat.zero_le _, fun b hb => ⟨by show 3 ≤ sizeLine; decide, fun t ht => ?_⟩⟩⟩
      have s1 : Same H (upd H a (.lst [])) := same_new ha _
      have s2 := same_new hb (.lst [])
      have s3 := same_new ht (.tup [.ref a, .ref a, .ref b])
      refine q t a a b _ (s1.trans (s2.trans s3)) upd_same ⟨s3 _ _ (s2 _ _ upd_same), s3 _ _ (s2 _ _ upd_same), [], s3 _ _ upd_same, .nil⟩
    | some c =>
      have e0 : ((((sOf (Option.some c : Option Bool).toList).length : Nat) : Int) != 0) = true := by cases c <;> decide +kernel
      rw [e0]
      refine iteT ⟨_, rfl, by show 1 ≤ sizeLine; decide, fun a ha => ⟨_, rfl, _, rfl, Nat.zero_le _, fun b hb => ⟨by show 3 ≤ sizeLine; decide, fun t ht => ?_⟩⟩⟩
      have s1 : Same H (upd H a (.lst [vN st])) := same_new ha _
      have s2 := same_new hb (.lst [])
      have s3 := same_new ht (.tup [.ref a, .ref a, .ref b])
      refine q t a a b _ (s1.trans (s2.trans s3)) upd_same ⟨s3 _ _ (s2 _ _ upd_same), s3 _ _ (s2 _ _ upd_same), [], s3 _ _ upd_same, .nil⟩
  | sg m e =>
    cases n with
    | zero => exact hg.elim
    | succ d =>
    obtain ⟨p, u, rfl, h2, h3⟩ := hv
    have w := gath_within d none e hg st
    have hll : (Ex.sg m e).lets = e.lets := rfl
    rw [hll] at h8
    have bq : e.lets.length * e.lets.length * (d + 1) ≤ 8 * 8 * 7 := Nat.mul_le_mul (Nat.mul_le_mul h8 h8) (by omega)
    have bp : (gath e st).p.length ≤ 448 := Nat.le_trans w.pl bq
    have bf : (gath e st).f.length ≤ 8 := Nat.le_trans w.fl (by omega)
    have bl : (gath e st).l.length ≤ 8 := Nat.le_trans w.ll (by omega)
    have e0 : inV (.str (sgS m)) ([("maybe" : Str), "many"].map V.str) = true := w_single m
    refine iteF ⟨_, rfl, _, _, 0, _, rfl, rfl, h2, rfl, (by show 2 ≤ sizeLine; decide), fun a ha => ⟨a, ["maybe", "many"], _, rfl, rfl, .inr upd_same, _, rfl, ?_⟩⟩
    rw [e0]
    have s1 := same_new ha (.tup [.str "maybe", .str "many"])
    generalize upd H a (.tup [.str "maybe", .str "many"]) = H1 at s1 ⊢
    refine iteT ⟨_, rfl, _, _, 1, _, rfl, rfl, s1 _ _ h2, rfl, _, rfl, e, u, d, st, none, rfl, rfl, rE_ts (TS.of s1) _ _ h3, hg, h8, by omega, fun t fa la pa H2 s2 ht hG => ?_⟩
    refine ⟨t, _, rfl, ht, rfl, _, _, rfl, _, _, rfl, _, _, rfl, rfl, ?_⟩
    -- more
    refine ⟨_, rfl, _, _, 0, _, rfl, rfl, s2 _ _ (s1 _ _ h2), rfl, rfl, _, rfl, ?_⟩
    rw [w_many]
    cases m with
    | true =>
      refine iteT ⟨_, rfl, la, _, rfl, hG.l, fun K' D hD => ?_⟩
      refine lc2_rel (l := (gath e st).l) (m := (gath e st).f) (ys := (gath e st).f.map vN) (R := fun n v => v = vN n) (R2 := fun n v => v = vN n) hD (wk_lst fun H3 s3 => s3 _ _ hG.l) (nat_pr _) (nat_pr _) ?_ (fun _ => rfl) (fun _ _ => rfl) (fun _ _ => true) rPr
        (fun _ _ _ _ s r => rPr_ts (TS.of s) r) (fun _ _ _ _ _ h r => prd_stab h r) ?_ ?_ ?_
      · have := Nat.mul_le_mul bl bf
        omega
      · rintro a x H3 hm rfl s3 B hB
        exact ⟨_, rfl, fa, _, rfl, s3 _ _ hG.f, fun K2 => hB _ (wk_lst fun H4 s4 => s4 _ _ hG.f)⟩
      · rintro a x b y H3 hma hmb rfl rfl s3 hDl Ky Kn k1 _
        exact yesT (iteT ⟨_, rfl, _, rfl, by show 2 ≤ sizeLine; decide, fun z hz => k1 _ _ rfl (same_new hz _) ⟨z, rfl, upd_same⟩⟩)
      · intro H3 zs s3 hzs hpr
        rw [flat_prd] at hpr
        obtain ⟨qs, hq1, hq2⟩ := hG.p
        have hzl : zs.length = (prd (gath e st).l (gath e st).f).length := hpr.length.symm
        have hql : qs.length = (gath e st).p.length := hq2.length.symm
        rw [len_prd] at hzl
        have hlf := Nat.mul_le_mul bl bf
        refine ⟨_, rfl, _, rfl, _, rfl, _, rfl, pa, D, qs, zs, rfl, rfl, s3 _ _ hq1, hzs, Nat.le_trans (by omega : qs.length + zs.length ≤ 1000) (by decide), fun c hc => ⟨by show 3 ≤ sizeLine; decide, fun t2 ht2 => ?_⟩⟩
        have s4 := same_new hc (.lst (qs ++ zs))
        have s5 := same_new ht2 (.tup [.ref fa, .ref la, .ref c])
        have s35 := s3.trans (s4.trans s5)
        refine q t2 fa la c _ (s1.trans (s2.trans s35)) upd_same ⟨hG.f.same s35, hG.l.same s35, _, s5 _ _ upd_same, ?_⟩
        exact pr_app (pr_imp hq2 fun _ _ _ r => rPr_ts (TS.of s35) r) (pr_imp hpr fun _ _ _ r => rPr_ts (TS.of (s4.trans s5)) r)
    | false =>
      refine iteF ⟨Nat.zero_le _, fun D hD => ?_⟩
      have s3 := same_new hD (.lst [])
      obtain ⟨qs, hq1, hq2⟩ := hG.p
      have hql : qs.length = (gath e st).p.length := hq2.length.symm
      refine ⟨_, rfl, _, rfl, _, rfl, _, rfl, pa, D, qs, [], rfl, rfl, s3 _ _ hq1, upd_same, Nat.le_trans (by show qs.length + 0 ≤ 1000; omega) (by decide), fun c hc => ⟨by show 3 ≤ sizeLine; decide, fun t2 ht2 => ?_⟩⟩
      have s4 := same_new hc (.lst (qs ++ []))
      have s5 := same_new ht2 (.tup [.ref fa, .ref la, .ref c])
      have s35 := s3.trans (s4.trans s5)
      refine q t2 fa la c _ (s1.trans (s2.trans s35)) upd_same ⟨hG.f.same s35, hG.l.same s35, _, s5 _ _ upd_same, ?_⟩
      exact pr_app (pr_imp hq2 fun _ _ _ r => rPr_ts (TS.of s35) r) .nil
  | ro b es =>
    cases n with
    | zero => exact hg.elim
    | succ d =>
    have w := gath_within (d + 1) o (.ro b es) hg st
    obtain ⟨g1, g2, g3, g4⟩ := hg
    obtain ⟨p, p2, us0, rfl, h2, h3, h4⟩ := id hv
    have e0 : inV (.str (roS b)) ([("maybe" : Str), "many"].map V.str) = false := w_row b
    refine iteF ⟨_, rfl, _, _, 0, _, rfl, rfl, h2, rfl, (by show 2 ≤ sizeLine; decide), fun a ha => ⟨a, ["maybe", "many"], _, rfl, rfl, .inr upd_same, _, rfl, ?_⟩⟩
    rw [e0]
    have s1 := same_new ha (.tup [.str "maybe", .str "many"])
    generalize upd H a (.tup [.str "maybe", .str "many"]) = H1 at s1 ⊢
    refine iteF ⟨Nat.zero_le _, fun fa0 hfa => ⟨Nat.zero_le _, fun la0 hla => ⟨Nat.zero_le _, fun pa0 hpa => ⟨by show 3 ≤ sizeLine; decide, fun t ht => ?_⟩⟩⟩⟩
    have r1 := same_new hfa (.lst [])
    have r2 := same_new hla (.lst [])
    have r3 := same_new hpa (.lst [])
    have r4 := same_new ht (.tup [.ref fa0, .ref la0, .ref pa0])
    have G0 : GAt ⟨[], [], []⟩ fa0 la0 pa0 (upd (upd (upd (upd H1 fa0 (.lst [])) la0 (.lst [])) pa0 (.lst [])) t (.tup [.ref fa0, .ref la0, .ref pa0])) :=
      ⟨r4 _ _ (r3 _ _ (r2 _ _ upd_same)), r4 _ _ (r3 _ _ upd_same), [], r4 _ _ upd_same, .nil⟩
    have s2 := s1.trans (r1.trans (r2.trans (r3.trans r4)))
    refine ⟨t, _, rfl, upd_same, rfl, _, _, rfl, _, _, rfl, _, _, rfl, rfl, ?_⟩
    generalize upd (upd (upd (upd H1 fa0 (.lst [])) la0 (.lst [])) pa0 (.lst [])) t (.tup [.ref fa0, .ref la0, .ref pa0]) = H2 at s2 G0 ⊢
    refine ⟨_, rfl, _, rfl, .ro b es, _, rfl, rE_ts (TS.of s2) _ _ hv, fun pu us H3 s3 hpu hus => ⟨pu, us, rfl, hpu, fun K' => ?_⟩⟩
    have s03 := s2.trans s3
    have hpr : Paired (fun e u => rE e u H3) es us := rEs_pr hus
    have hesl : (letsL es).length ≤ 8 := h8
    refine for_by (wk_tup fun H4 (s4 : Same H3 H4) => s4 _ _ hpu)
      (fun i σ H4 => ∃ (fa la pa : Addr) (at_ : Nat) (em : Bool) (g : G) (y9 y10 y11 y12 : Option V), σ = [some (.ref p), some (vN st), none, some (.ref fa), some (.ref la), some (.ref pa), none, some (vN at_), some (.bl em), y9, y10, y11, y12, none, none] ∧
        Same H3 H4 ∧ GAt g fa la pa H4 ∧ gathL b (es.drop i) at_ em g = gath (.ro b es) st ∧ st ≤ at_ ∧ at_ + (letsL (es.drop i)).length = st + (letsL es).length ∧ Within st at_ ((at_ - st) * (at_ - st) * (d + 1)) g)
      (fun i σ H4 ⟨_, _, _, _, _, _, _, _, _, _, _, q, _⟩ => q)
      ⟨fa0, la0, pa0, st, true, ⟨[], [], []⟩, none, none, none, none, rfl, Same.refl _, G0.same s3, rfl, Nat.le_refl _, rfl, ⟨fun _ h => (nomatch h), fun _ h => (nomatch h), fun _ h => (nomatch h), Nat.zero_le _, Nat.zero_le _, Nat.zero_le _⟩⟩ ?_ ?_
    · rintro i x σ H4 hi ⟨fa, la, pa, at_, em, g, y9, y10, y11, y12, rfl, s4, hG, hrun, hle, htot, hw⟩
      obtain ⟨e, he, hRe⟩ := pr_get hpr hi
      have hem : e ∈ es := List.mem_of_getElem? he
      have hilt : i < es.length := (List.getElem?_eq_some_iff.mp he).1
      have hdrop : es.drop i = e :: es.drop (i + 1) := by
        rw [List.drop_eq_getElem_cons hilt]
        congr 1
        rw [List.getElem?_eq_getElem hilt] at he
        exact Option.some.inj he
      have hee : e.lets.length + (letsL (es.drop (i + 1))).length = (letsL (es.drop i)).length := by
        rw [hdrop, letsL, List.length_append]
      have he8 : e.lets.length ≤ 8 := by omega
      have wst := Within.step (b := b) (em := em) (he := e.hasE) hle (Nat.le_add_right at_ e.lets.length) hw (by
        have q2 : at_ + e.lets.length - at_ = e.lets.length := by omega
        rw [q2]
        exact gath_within d (some b) e (g4 e hem) at_) (Nat.succ_pos d)
      have hrun' : gathL b (es.drop (i + 1)) (at_ + e.lets.length) (emn b em e.hasE) (gstep b em e.hasE g (gath e at_)) = gath (.ro b es) st := by
        rw [hdrop] at hrun
        exact hrun
      have hsz : (at_ + e.lets.length - st) ≤ 8 := by omega
      have bq : (at_ + e.lets.length - st) * (at_ + e.lets.length - st) * (d + 1) ≤ 8 * 8 * 7 := Nat.mul_le_mul (Nat.mul_le_mul hsz hsz) (by omega)
      have bpn : (gstep b em e.hasE g (gath e at_)).p.length ≤ 448 := Nat.le_trans wst.pl bq
      have bfn : (gstep b em e.hasE g (gath e at_)).f.length ≤ 8 := Nat.le_trans wst.fl hsz
      have bln : (gstep b em e.hasE g (gath e at_)).l.length ≤ 8 := Nat.le_trans wst.ll hsz
      have we := gath_within d (some b) e (g4 e hem) at_
      have bfe : (gath e at_).f.length ≤ 8 := Nat.le_trans we.fl (by omega)
      have ble : (gath e at_).l.length ≤ 8 := Nat.le_trans we.ll (by omega)
      have bfg : g.f.length ≤ 8 := Nat.le_trans hw.fl (by omega)
      have blg : g.l.length ≤ 8 := Nat.le_trans hw.ll (by omega)
      have bpg : g.p.length + (gath e at_).p.length ≤ 448 := by
        refine Nat.le_trans ?_ bpn
        unfold gstep
        cases b
        · show _ ≤ (g.p ++ (gath e at_).p ++ prd g.l (gath e at_).f).length
          rw [List.length_append, List.length_append]; omega
        · show _ ≤ (g.p ++ (gath e at_).p).length
          rw [List.length_append]; exact Nat.le_refl _
      have hx4 : rE e x H4 := rE_ts (TS.of s4) _ _ hRe
      refine ⟨_, rfl, _, rfl, e, x, d, at_, some b, rfl, rfl, hx4, g4 e hem, he8, by omega, fun t1 f1 l1 p1 H5 s5 ht1 hG1 => ?_⟩
      refine ⟨t1, _, rfl, ht1, rfl, _, _, rfl, _, _, rfl, _, _, rfl, rfl, ?_⟩
      -- at = at + len(letters_of(part))
      refine ⟨_, rfl, _, rfl, e, x, d, some b, rfl, rfl, rE_ts (TS.of s5) _ _ hx4, g4 e hem, he8, fun H6 s6 => ?_⟩
      refine ⟨_, rfl, (by rw [sOf_len]; exact Nat.le_trans he8 (by decide)), _, _, rfl, rfl, ?_⟩
      have eAt : V.int ((at_ : Int) + ((sOf e.lets).length : Int)) = vN (at_ + e.lets.length) := by rw [sOf_len]; show V.int _ = V.int _; rw [Int.natCast_add]
      -- pairs = pairs + own
      obtain ⟨qs, hq1, hq2⟩ := hG.p
      obtain ⟨qe, hqe1, hqe2⟩ := hG1.p
      have hql : qs.length = g.p.length := hq2.length.symm
      have hqel : qe.length = (gath e at_).p.length := hqe2.length.symm
      have s46 := s5.trans s6
      refine ⟨_, rfl, _, rfl, pa, p1, qs, qe, rfl, rfl, s46 _ _ hq1, s6 _ _ hqe1, Nat.le_trans (by omega : qs.length + qe.length ≤ 448) (by decide), fun c hc => ?_⟩
      have s7 := same_new hc (.lst (qs ++ qe))
      have hc7 : upd H6 c (.lst (qs ++ qe)) c = some (.lst (qs ++ qe)) := upd_same
      generalize upd H6 c (.lst (qs ++ qe)) = H7 at s7 hc7 ⊢
      have s47 := s46.trans s7
      have s57 := s6.trans s7
      have h27 : H7 p = some (.tup [.str (roS b), .ref p2]) := s47 _ _ (s4 _ _ (s03 _ _ h2))
      have hx7 : rE e x H7 := rE_ts (TS.of s47) _ _ hx4
      have hpc : Paired (fun q v => rPr q v H7) (g.p ++ (gath e at_).p) (qs ++ qe) :=
        pr_app (pr_imp hq2 fun _ _ _ r => rPr_ts (TS.of s47) r) (pr_imp hqe2 fun _ _ _ r => rPr_ts (TS.of s57) r)
      refine ⟨_, rfl, _, _, 0, _, rfl, rfl, h27, rfl, rfl, _, rfl, ?_⟩
      rw [w_or]
      cases b with
      | true =>
        refine iteT ⟨_, rfl, _, rfl, fa, f1, _, _, rfl, rfl, hG.f.same s47, hG1.f.same s57, by rw [List.length_map, List.length_map]; exact Nat.le_trans (by omega : _ ≤ 16) (by decide), fun c1 hc1 => ?_⟩
        have s8 := same_new hc1 (.lst (g.f.map vN ++ (gath e at_).f.map vN))
        have hc8 : upd H7 c1 (.lst (g.f.map vN ++ (gath e at_).f.map vN)) c1 = _ := upd_same
        generalize upd H7 c1 (.lst (g.f.map vN ++ (gath e at_).f.map vN)) = H8 at s8 hc8 ⊢
        refine ⟨_, rfl, _, rfl, la, l1, _, _, rfl, rfl, hG.l.same (s47.trans s8), hG1.l.same (s57.trans s8), by rw [List.length_map, List.length_map]; exact Nat.le_trans (by omega : _ ≤ 16) (by decide), fun c2 hc2 => ?_⟩
        have s9 := same_new hc2 (.lst (g.l.map vN ++ (gath e at_).l.map vN))
        refine ⟨c1, c2, c, at_ + e.lets.length, em, _, _, _, _, _, by rw [← eAt]; rfl, s4.trans (s47.trans (s8.trans s9)), ?_, hrun', by omega, by omega, wst⟩
        refine ⟨?_, ?_, _, s9 _ _ (s8 _ _ hc7), pr_imp hpc fun _ _ _ r => rPr_ts (TS.of (s8.trans s9)) r⟩
        · show _ = some (HO.lst ((g.f ++ (gath e at_).f).map vN))
          rw [List.map_append]
          exact s9 _ _ hc8
        · show _ = some (HO.lst ((g.l ++ (gath e at_).l).map vN))
          rw [List.map_append]
          exact upd_same
      | false =>
        -- pairs = pairs + [(one, other) for one in lasts for other in first]
        refine iteF ⟨_, rfl, _, rfl, la, _, rfl, hG.l.same s47, fun K2 D hD => ?_⟩
        refine lc2_rel (l := g.l) (m := (gath e at_).f) (ys := (gath e at_).f.map vN) (R := fun n v => v = vN n) (R2 := fun n v => v = vN n) hD (wk_lst fun H8 s8 => s8 _ _ (hG.l.same s47)) (nat_pr _) (nat_pr _) ?_ (fun _ => rfl) (fun _ _ => rfl) (fun _ _ => true) rPr
          (fun _ _ _ _ s r => rPr_ts (TS.of s) r) (fun _ _ _ _ _ h r => prd_stab h r) ?_ ?_ ?_
        · have := Nat.mul_le_mul blg bfe
          omega
        · rintro a x' H8 hm rfl s8 B hB
          exact ⟨_, rfl, f1, _, rfl, s8 _ _ (hG1.f.same s57), fun K3 => hB _ (wk_lst fun H9 s9 => s9 _ _ (hG1.f.same s57))⟩
        · rintro a x' b' y H8 hma hmb rfl rfl s8 hDl Ky Kn k1 _
          exact yesT (iteT ⟨_, rfl, _, rfl, by show 2 ≤ sizeLine; decide, fun z hz => k1 _ _ rfl (same_new hz _) ⟨z, rfl, upd_same⟩⟩)
        intro H8 zs s8 hzs hprz
        rw [flat_prd] at hprz
        have hzl : zs.length = (prd g.l (gath e at_).f).length := hprz.length.symm
        rw [len_prd] at hzl
        have hlf := Nat.mul_le_mul blg bfe
        refine ⟨c, D, _, zs, rfl, rfl, s8 _ _ hc7, hzs, by rw [List.length_append]; exact Nat.le_trans (by omega : _ ≤ 1000) (by decide), fun c1 hc1 => ?_⟩
        have s9 := same_new hc1 (.lst (qs ++ qe ++ zs))
        have hc9 : upd H8 c1 (.lst (qs ++ qe ++ zs)) c1 = _ := upd_same
        generalize upd H8 c1 (.lst (qs ++ qe ++ zs)) = H9 at s9 hc9 ⊢
        have s79 := s8.trans s9
        have s49 := s47.trans s79
        have s59 := s57.trans s79
        have hpz : Paired (fun q v => rPr q v H9) (g.p ++ (gath e at_).p ++ prd g.l (gath e at_).f) (qs ++ qe ++ zs) :=
          pr_app (pr_imp hpc fun _ _ _ r => rPr_ts (TS.of s79) r) (pr_imp hprz fun _ _ _ r => rPr_ts (TS.of s9) r)
        -- firsts = firsts + (first if empty else [])
        refine ⟨_, rfl, _, rfl, em, rfl, if_new rfl (hG1.f.same s59) fun z1 H10 s10 hz1 => ?_⟩
        refine ⟨fa, z1, _, _, rfl, rfl, s10 _ _ (hG.f.same s49), hz1, ?_, fun c2 hc2 => ?_⟩
        · cases em <;> simp only [if_true, Bool.false_eq_true, if_false, List.length_map, List.length_nil] <;> exact Nat.le_trans (by omega : _ ≤ 16) (by decide)
        have eF : g.f.map vN ++ (if em = true then (gath e at_).f.map vN else []) = (g.f ++ (if em = true then (gath e at_).f else [])).map vN := by cases em <;> simp
        rw [eF]
        have s11 := same_new hc2 (.lst ((g.f ++ (if em = true then (gath e at_).f else [])).map vN))
        have hc11 : upd H10 c2 (.lst ((g.f ++ (if em = true then (gath e at_).f else [])).map vN)) c2 = _ := upd_same
        generalize upd H10 c2 (.lst ((g.f ++ (if em = true then (gath e at_).f else [])).map vN)) = H11 at s11 hc11 ⊢
        have s911 := s10.trans s11
        have hx11 : rE e x H11 := rE_ts (TS.of (s79.trans s911)) _ _ hx7
        -- lasts = last + (lasts if has_empty(part) else [])
        refine ⟨_, rfl, _, rfl, e, x, d, some false, rfl, rfl, hx11, g4 e hem, fun H12 s12 => ⟨_, rfl, if_new rfl (hG.l.same (s49.trans (s911.trans s12))) fun z2 H13 s13 hz2 => ?_⟩⟩
        have s913 := s911.trans (s12.trans s13)
        refine ⟨l1, z2, _, _, rfl, rfl, hG1.l.same (s59.trans s913), hz2, ?_, fun c3 hc3 => ?_⟩
        · cases e.hasE <;> simp only [if_true, Bool.false_eq_true, if_false, List.length_map, List.length_nil] <;> exact Nat.le_trans (by omega : _ ≤ 16) (by decide)
        have eL : (gath e at_).l.map vN ++ (if e.hasE = true then g.l.map vN else []) = ((gath e at_).l ++ (if e.hasE = true then g.l else [])).map vN := by cases e.hasE <;> simp
        rw [eL]
        have s14 := same_new hc3 (.lst (((gath e at_).l ++ (if e.hasE = true then g.l else [])).map vN))
        have hc14 : upd H13 c3 (.lst (((gath e at_).l ++ (if e.hasE = true then g.l else [])).map vN)) c3 = _ := upd_same
        generalize upd H13 c3 (.lst (((gath e at_).l ++ (if e.hasE = true then g.l else [])).map vN)) = H14 at s14 hc14 ⊢
        have s914 := s913.trans s14
        have s1114 := s12.trans (s13.trans s14)
        have hGn : GAt (gstep false em e.hasE g (gath e at_)) c2 c3 c1 H14 := ⟨s1114 _ _ hc11, hc14, _, s914 _ _ hc9, pr_imp hpz fun _ _ _ r => rPr_ts (TS.of s914) r⟩
        have s414 := s4.trans (s49.trans s914)
        -- empty = empty and has_empty(part)
        refine ⟨_, rfl, em, rfl, ?_⟩
        cases em with
        | false => exact iteF ⟨c2, c3, c1, at_ + e.lets.length, false, _, _, _, _, _, by rw [← eAt]; rfl, s414, hGn, hrun', by omega, by omega, wst⟩
        | true =>
          refine iteT ⟨_, rfl, e, x, d, some false, rfl, rfl, rE_ts (TS.of s1114) _ _ hx11, g4 e hem, fun H15 s15 => ?_⟩
          exact ⟨c2, c3, c1, at_ + e.lets.length, e.hasE, _, _, _, _, _, by rw [← eAt]; rfl, s414.trans s15, hGn.same s15, hrun', by omega, by omega, wst⟩
    · rintro σ H4 ⟨fa, la, pa, at_, em, g, y9, y10, y11, y12, rfl, s4, hG, hrun, hle, htot, hw⟩
      have hend : es.drop us.length = [] := by rw [← hpr.length]; exact List.drop_length
      rw [hend] at hrun
      have hrun : g = gath (.ro b es) st := hrun
      rw [hrun] at hG
      refine ⟨_, rfl, _, rfl, _, rfl, by show 3 ≤ sizeLine; decide, fun t2 ht2 => ?_⟩
      have s5 := same_new ht2 (.tup [.ref fa, .ref la, .ref pa])
      exact q t2 fa la pa _ (s03.trans (s4.trans s5)) upd_same (hG.same s5)
end
end K65
end

section
set_option Elab.async false
set_option linter.all false
set_option maxRecDepth 100000
set_option maxHeartbeats 4000000
/-! The program's tables, conflicts and neighbours. -/
namespace K65
open PySem L2
open PyProof.Rows (envOfC)

theorem addK_map {α β : Type} [DecidableEq α] [DecidableEq β] {f : α → β} (inj : ∀ a b, f a = f b → a = b) (m : List α) (k : α) : addK (m.map f) (f k) = (addK m k).map f := by
  unfold addK
  by_cases h : k ∈ m
  · rw [if_pos h, if_pos (List.mem_map.mpr ⟨k, h, rfl⟩)]
  · have h' : ¬ f k ∈ m.map f := fun z => by
      obtain ⟨a, ha, e⟩ := List.mem_map.mp z
      exact h (inj a k e ▸ ha)
    rw [if_neg h, if_neg h', List.map_append]
    rfl
/-- the different items of a list, in the order in which they come first -/
def ded {α : Type} [DecidableEq α] (l : List α) : List α := l.foldl addK []
theorem ded_snoc {α : Type} [DecidableEq α] (l : List α) (a : α) : ded (l ++ [a]) = addK (ded l) a := by unfold ded; rw [List.foldl_append]; rfl
theorem fold_mem {α : Type} [DecidableEq α] {x : α} : ∀ (l m : List α), x ∈ l.foldl addK m ↔ x ∈ m ∨ x ∈ l
  | [], m => by simp
  | a :: r, m => by
    rw [List.foldl_cons, fold_mem r, addK_mem, List.mem_cons, or_assoc]
theorem ded_mem {α : Type} [DecidableEq α] {x : α} {l : List α} : x ∈ ded l ↔ x ∈ l := by unfold ded; rw [fold_mem]; simp
theorem fold_nodup {α : Type} [DecidableEq α] : ∀ (l m : List α), m.Nodup → (l.foldl addK m).Nodup
  | [], m, h => h
  | a :: r, m, h => fold_nodup r _ (addK_nodup h)
theorem ded_nodup {α : Type} [DecidableEq α] (l : List α) : (ded l).Nodup := fold_nodup l [] List.nodup_nil
theorem fold_len {α : Type} [DecidableEq α] : ∀ (l m : List α), (l.foldl addK m).length ≤ m.length + l.length
  | [], m => Nat.le_refl _
  | a :: r, m => by
    have h1 := fold_len r (addK m a)
    have h2 := addK_len m a
    rw [List.foldl_cons, List.length_cons]
    omega
theorem ded_len {α : Type} [DecidableEq α] (l : List α) : (ded l).length ≤ l.length := by
  have := fold_len l ([] : List α)
  rw [List.length_nil, Nat.zero_add] at this
  exact this
theorem inlN_inj (a b : Nat) (h : (Sum.inl (a : Int) : Key) = Sum.inl (b : Int)) : a = b := Int.ofNat.inj (Sum.inl.inj h)

def spOrd : Sp := fun vs H Q _ => ∃ (a : Addr) (l : List Nat), vs = [.ref a] ∧ rLN l a H ∧ (∀ x ∈ l, x < 60) ∧ l.length ≤ 1000 ∧
  ∀ (t : Addr) (m : List Nat) (H' : Hp), Same H H' → H' t = some (.tup (m.map vN)) → m.Nodup → (∀ x, x ∈ m ↔ x ∈ l) → Q (.ref t) H'
def spPrs : Sp := fun vs H Q _ => ∃ (ls : List Bool) (a : Addr) (g : List Nat), vs = [.str (sOf ls), .ref a] ∧ H a = some (.tup (g.map vN)) ∧ (∀ x ∈ g, x < ls.length) ∧ ls.length ≤ 8 ∧ g.length ≤ 60 ∧
  ∀ (p : Addr) (H' : Hp), Same H H' → rLP (prs ls g) p H' → Q (.ref p) H'

section
variable {P : Program} {w : World} {K : PySem.W.Frag} {mg : Str → Option Value} {base : Heap} {k : Nat} {f : Addr} {fd : FuncData}
abbrev s_ordered : Stmt := top 21
theorem sc_ordered : FnScope ["places", "place"] ["places"] (defScope s_ordered) := ⟨rfl, rfl, rfl, by decide +kernel, rfl, by decide +kernel, by decide +kernel⟩
theorem ok_ordered (T : Txt K mg) (F : Fun K "ordered" "ordered" s_ordered f fd) : FnOk P w K mg base CX0 (k + 1) f fd ["places"] spOrd := by
  have nd := sc_ordered.nd
  refine F.ok sc_ordered (fun vs H Q E h => ?_) (fun cdv A outer s H vs Q E hr h => ?_)
  · obtain ⟨a, l, rfl, _⟩ := h
    rfl
  obtain ⟨a, l, rfl, ha, h60, hlen, q⟩ := h
  refine ⟨_, (pss_one (ps_ret (pe_callTy call_tuple2 (by rfl) T.z_tuple (by decide +kernel) (pa_cons (pe_callB (call_sortedDI rfl) (by rfl) T.z_sorted (by decide +kernel) (pa_cons (pe_dc (own := [("place", 1)]) (g := gName 1) (tt := tYes) rfl nd (pi_L (pv 0)) (blkOk_by (own := [("place", 1)]) (by kernel_rfl)) (fun _ _ _ _ _ => pg_name (i := 1) nd rfl (Or.inl rfl)) (fun _ _ _ _ _ => pts_nil) (fun _ _ _ _ _ => (pv 1)) (fun _ _ _ _ _ => pe_bl)) pa_nil)) pa_nil)))), ?_⟩
  refine ⟨_, rfl, a, _, rfl, ha, fun K' D hD => ?_⟩
  refine dc_by (wk_lst fun H2 (s2 : Same H H2) => s2 _ _ ha) (fun i H2 => Same H H2 ∧ H2 D = some (.dK (((ded (l.take i)).map fun (n : Nat) => (Sum.inl (n : Int) : Key)).map keyT))) (fun i H2 h => h.1) ⟨same_new hD _, upd_same⟩ ?_ ?_
  · rintro i x H2 hi ⟨s2, h2⟩
    obtain ⟨n, hn, rfl⟩ := pr_get (nat_pr l) hi
    refine ⟨rfl, yesT (iteT ⟨_, rfl, _, Sum.inl (n : Int), rfl, h2, ?_, same_mut s2 hD, ?_⟩)⟩
    · rw [List.length_map, List.length_map]
      have h3 := ded_len (l.take i)
      rw [List.length_take] at h3
      exact Nat.lt_of_le_of_lt (by omega : _ ≤ 1000) (by decide)
    · rw [upd_same, put_keys, addK_map inlN_inj, ← ded_snoc, ← take_snoc hn]
  · rintro H2 ⟨s2, h2⟩
    rw [List.length_map, List.take_length] at h2
    have lt64 : (ded l).length ≤ 60 := nodup_le (ded_nodup l) fun x hx => h60 x (ded_mem.mp hx)
    refine ⟨D, _, (ded l).map fun (n : Nat) => (n : Int), rfl, Rd.of h2, by rw [List.map_map, List.map_map, List.map_map]; rfl, by rw [List.length_map]; omega, fun ys p hperm _ hp => ?_⟩
    have hys : ∃ m : List Nat, ys = m.map fun (n : Nat) => (n : Int) := by
      refine ⟨ys.map Int.toNat, ?_⟩
      rw [List.map_map]
      refine (List.map_id ys).symm.trans (List.map_congr_left fun y hy => ?_)
      obtain ⟨n, _, rfl⟩ := List.mem_map.mp (hperm.mem_iff.mp hy)
      rfl
    obtain ⟨m, rfl⟩ := hys
    have hmem : ∀ x, x ∈ m ↔ x ∈ l := fun x => by
      have h3 := hperm.mem_iff (a := (x : Int))
      rw [List.mem_map, List.mem_map] at h3
      constructor
      · intro hx
        obtain ⟨y, hy, e⟩ := h3.mp ⟨x, hx, rfl⟩
        rw [← Int.ofNat.inj e]
        exact ded_mem.mp hy
      · intro hx
        obtain ⟨y, hy, e⟩ := h3.mpr ⟨x, ded_mem.mpr hx, rfl⟩
        rw [← Int.ofNat.inj e]
        exact hy
    have hnd : m.Nodup := by
      have h3 : (m.map fun (n : Nat) => (n : Int)).Nodup := hperm.nodup_iff.mpr (List.Pairwise.map _ (fun a b hab e => hab (Int.ofNat.inj e)) (ded_nodup l))
      exact (List.pairwise_map.mp h3).imp fun hab e => hab (by rw [e])
    have s3 := same_new hp (.lst ((m.map fun (n : Nat) => (n : Int)).map V.int))
    refine ⟨p, _, rfl, upd_same, fun t ht => ?_⟩
    have s4 := same_new ht (.tup ((m.map fun (n : Nat) => (n : Int)).map V.int))
    exact q t m _ (s2.trans (s3.trans s4)) (by rw [upd_same, List.map_map]; rfl) hnd hmem

abbrev s_pairs_in : Stmt := top 24
theorem sc_pairs_in : FnScope ["letters", "places", "one", "other"] ["letters", "places"] (defScope s_pairs_in) := ⟨rfl, rfl, rfl, by decide +kernel, rfl, by decide +kernel, by decide +kernel⟩
theorem ok_pairs_in (T : Txt K mg) (F : Fun K "pairs_in" "pairs_in" s_pairs_in f fd) : FnOk P w K mg base CX0 (k + 1) f fd ["letters", "places"] spPrs := by
  have nd := sc_pairs_in.nd
  refine F.ok sc_pairs_in (fun vs H Q E h => ?_) (fun cdv A outer s H vs Q E hr h => ?_)
  · obtain ⟨ls, a, g, rfl, _⟩ := h
    rfl
  obtain ⟨ls, a, g, rfl, ha, hlt, h8, h60, q⟩ := h
  refine ⟨_, (pss_one (ps_ret (pe_lc2 (own := [("one", 2), ("other", 3)]) (vs1 := [3]) rfl nd (pi_U (pv 1)) (blkOk_by (own := [("one", 2), ("other", 3)]) (by kernel_rfl)) (by decide) (fun _ _ _ _ _ => pg_name (i := 2) nd rfl (Or.inl rfl)) (fun _ _ _ _ _ => pts_nil) (fun _ _ _ _ _ => (pi_U (pv 1))) (fun _ _ _ _ _ => pg_name (i := 3) nd rfl (Or.inl rfl)) (fun _ _ _ _ _ => pts_one (PW.pt (pw_and (pt_cmpR op_lt (pv 2) (pv 3) (nomark _)) (pw_and1 (pt_cmpR op_eq (pe_ix it_str (pv 0) (pv 2) (fun _ _ => rfl)) (pe_ix it_str (pv 0) (pv 3) (fun _ _ => rfl)) (nomark _)))))) (fun _ _ _ _ _ => (pe_tup (pa_cons (pv 2) (pa_cons (pv 3) pa_nil))))))), ?_⟩
  refine ⟨_, rfl, a, _, rfl, ha, fun K' D hD => ?_⟩
  have hls : (sOf ls).length ≤ sizeLine := by rw [sOf_len]; exact Nat.le_trans h8 (by decide)
  refine lc2_rel (l := g) (m := g) (ys := g.map vN) (R := fun n v => v = vN n) (R2 := fun n v => v = vN n) hD (wk_tup fun H3 s3 => s3 _ _ ha) (nat_pr _) (nat_pr _) ?_ (fun _ => rfl) (fun _ _ => rfl) (fun a b => decide (a < b) && decide (ls[a]? = ls[b]?)) rPr
    (fun _ _ _ _ s r => rPr_ts (TS.of s) r) (fun _ _ _ _ _ h r => prd_stab h r) ?_ ?_ ?_
  · have := Nat.mul_le_mul h60 h60
    omega
  · rintro c x H3 hm rfl s3 B hB
    exact ⟨_, rfl, a, _, rfl, s3 _ _ ha, fun K2 => hB _ (wk_tup fun H4 s4 => s4 _ _ ha)⟩
  · rintro c x b y H3 hmc hmb rfl rfl s3 hDl Ky Kn k1 k0
    have e1 : decide ((c : Int) < (b : Int)) = decide (c < b) := decide_eq_decide.mpr Int.ofNat_lt
    refine ⟨_, rfl, _, rfl, _, _, rfl, rfl, _, rfl, ?_⟩
    rw [e1]
    by_cases hcb : c < b
    · rw [decide_eq_true hcb]
      refine iteT ⟨_, rfl, _, rfl, _, c, cd (ls[c]'(hlt c hmc)), rfl, rfl, hls, ?_, _, rfl, _, rfl, _, b, cd (ls[b]'(hlt b hmb)), rfl, rfl, hls, ?_, rfl, _, rfl, ?_⟩
      · rw [sOf_get, List.getElem?_eq_getElem (hlt c hmc)]; rfl
      · rw [sOf_get, List.getElem?_eq_getElem (hlt b hmb)]; rfl
      · by_cases hE : ls[c]'(hlt c hmc) = ls[b]'(hlt b hmb)
        · have e2 : decide (V.str ⟨#[cd (ls[c]'(hlt c hmc))]⟩ = V.str ⟨#[cd (ls[b]'(hlt b hmb))]⟩) = true := decide_eq_true (by rw [hE])
          rw [e2]
          refine iteT ⟨_, rfl, _, rfl, by show 2 ≤ sizeLine; decide, fun z hz => k1 _ _ ?_ (same_new hz _) ⟨z, rfl, upd_same⟩⟩
          rw [decide_eq_true hcb, List.getElem?_eq_getElem (hlt c hmc), List.getElem?_eq_getElem (hlt b hmb), hE]
          simp
        · have e2 : decide (V.str ⟨#[cd (ls[c]'(hlt c hmc))]⟩ = V.str ⟨#[cd (ls[b]'(hlt b hmb))]⟩) = false := decide_eq_false fun z => hE (cd_inj (one_inj (V.str.inj z)))
          rw [e2]
          refine iteF (k0 _ ?_ (Same.refl _))
          rw [List.getElem?_eq_getElem (hlt c hmc), List.getElem?_eq_getElem (hlt b hmb)]
          simp [hE]
    · rw [decide_eq_false hcb]
      refine iteF (iteF (k0 _ ?_ (Same.refl _)))
      rw [decide_eq_false hcb]
      rfl
  · intro H3 zs s3 hzs hpr
    exact q D H3 s3 ⟨zs, hzs, hpr⟩
end
end K65
end

section
set_option Elab.async false
set_option linter.all false
set_option maxRecDepth 100000
set_option maxHeartbeats 4000000
/-! The program's tables and conflicts. -/
namespace K65
open PySem L2
open PyProof.Rows (envOfC)

/-- two places, the lesser one first, are in conflict -/
def Confl (e : Ex) (q : Nat × Nat) : Prop :=
  q.1 < q.2 ∧ e.lets[q.1]? = e.lets[q.2]? ∧ ((q.1 ∈ (gath e 0).f ∧ q.2 ∈ (gath e 0).f) ∨ ∃ p, (p, q.1) ∈ (gath e 0).p ∧ (p, q.2) ∈ (gath e 0).p)
structure TabOk (e : Ex) (f : List Nat) (fo : List (List Nat)) : Prop where
  mem : ∀ x, x ∈ f ↔ x ∈ (gath e 0).f
  nod : f.Nodup
  len : fo.length = e.lets.length
  row : ∀ p m, fo[p]? = some m → m.Nodup ∧ ∀ x, x ∈ m ↔ (p, x) ∈ (gath e 0).p
theorem gath0 {e : Ex} (h : ExOk e) : Within 0 e.lets.length 448 (gath e 0) := by
  have w := gath_within 6 none e h.1 0
  rw [Nat.zero_add] at w
  exact w.mono (Nat.mul_le_mul (Nat.mul_le_mul h.2.1 h.2.1) (Nat.le_refl 7))
theorem TabOk.low {e : Ex} {f : List Nat} {fo : List (List Nat)} (t : TabOk e f fo) (h : ExOk e) : (∀ x ∈ f, x < e.lets.length) ∧ ∀ m ∈ fo, ∀ x ∈ m, x < e.lets.length := by
  refine ⟨fun x hx => ((gath0 h).f x ((t.mem x).mp hx)).2, fun m hm x hx => ?_⟩
  obtain ⟨p, hp⟩ := List.getElem?_of_mem hm
  exact ((gath0 h).p _ (((t.row p m hp).2 x).mp hx)).2.2
theorem TabOk.few {e : Ex} {f : List Nat} {fo : List (List Nat)} (t : TabOk e f fo) (h : ExOk e) : f.length ≤ 8 ∧ ∀ m ∈ fo, m.length ≤ 8 := by
  obtain ⟨h1, h2⟩ := t.low h
  refine ⟨Nat.le_trans (nodup_le t.nod h1) h.2.1, fun m hm => ?_⟩
  obtain ⟨p, hp⟩ := List.getElem?_of_mem hm
  exact Nat.le_trans (nodup_le (t.row p m hp).1 (h2 m hm)) h.2.1
theorem TabOk.confl {e : Ex} {f : List Nat} {fo : List (List Nat)} (t : TabOk e f fo) (h : ExOk e) (q : Nat × Nat) : q ∈ (f :: fo).flatMap (prs e.lets) ↔ Confl e q := by
  rw [List.mem_flatMap]
  constructor
  · rintro ⟨g, hg, hq⟩
    obtain ⟨h1, h2, h3, h4⟩ := mem_prs.mp hq
    refine ⟨h3, h4, ?_⟩
    rcases List.mem_cons.mp hg with rfl | hg
    · exact .inl ⟨(t.mem _).mp h1, (t.mem _).mp h2⟩
    · obtain ⟨p, hp⟩ := List.getElem?_of_mem hg
      exact .inr ⟨p, ((t.row p g hp).2 _).mp h1, ((t.row p g hp).2 _).mp h2⟩
  · rintro ⟨h3, h4, h1 | ⟨p, h1, h2⟩⟩
    · exact ⟨f, List.mem_cons_self, mem_prs.mpr ⟨(t.mem _).mpr h1.1, (t.mem _).mpr h1.2, h3, h4⟩⟩
    · have hp : p < fo.length := by rw [t.len]; exact ((gath0 h).p _ h1).1.2
      have hg := List.getElem?_eq_getElem hp
      refine ⟨fo[p], List.mem_cons_of_mem _ (List.getElem_mem hp), mem_prs.mpr ⟨((t.row p _ hg).2 _).mpr h1, ((t.row p _ hg).2 _).mpr h2, h3, h4⟩⟩
theorem pr_perm {α β : Type} {R : α → β → Prop} {m m' : List β} (hp : List.Perm m' m) : ∀ {l : List α}, Paired R l m → ∃ l', List.Perm l' l ∧ Paired R l' m' := by
  induction hp with
  | nil => exact fun {l} h => ⟨l, List.Perm.refl _, h⟩
  | cons b _ ih =>
    intro l h
    cases h with
    | cons h1 h2 =>
      obtain ⟨l', p, q⟩ := ih h2
      exact ⟨_, p.cons _, .cons h1 q⟩
  | swap b c _ =>
    intro l h
    cases h with
    | cons h1 h2 =>
      cases h2 with
      | cons h3 h4 => exact ⟨_, List.Perm.swap _ _ _, .cons h3 (.cons h1 h4)⟩
  | trans _ _ ih1 ih2 =>
    intro l h
    obtain ⟨l1, p1, q1⟩ := ih2 h
    obtain ⟨l2, p2, q2⟩ := ih1 q1
    exact ⟨l2, p2.trans p1, q2⟩
def key2 (q : Nat × Nat) : List Key := [Sum.inl (q.1 : Int), Sum.inl (q.2 : Int)]
theorem keys_pr {H : Hp} : ∀ {m : List (Nat × Nat)} {bs : List Addr}, Paired (fun (p : List Key × V) (b : Addr) => H b = some (.tup (p.1.map kV))) ((m.map key2).map keyT) bs → Paired (fun (z : Nat × Nat) (b : Addr) => H b = some (.tup [vN z.1, vN z.2])) m bs
  | [], _, h => by
    cases h
    exact .nil
  | z :: r, _, h => by
    cases h with
    | cons h1 h2 => exact .cons h1 (keys_pr h2)
theorem pr_refs {H H' : Hp} (s : Same H H') : ∀ {m : List (Nat × Nat)} {bs : List Addr}, Paired (fun (z : Nat × Nat) (b : Addr) => H b = some (.tup [vN z.1, vN z.2])) m bs → Paired (fun q v => rPr q v H') m (bs.map V.ref)
  | _, _, .nil => .nil
  | _, _, .cons h t => .cons ⟨_, rfl, s _ _ h⟩ (pr_refs s t)
theorem key2_inj (a b : Nat × Nat) (h : key2 a = key2 b) : a = b := by
  unfold key2 at h
  injection h with h1 h2
  injection h2 with h3 _
  exact Prod.ext (inlN_inj _ _ h1) (inlN_inj _ _ h3)

section
variable {J : It} {S : Hp → Prop} {xs : List V} {g : TG}
/-- a dict comprehension's loop, keys tuples -/
theorem dcT_by (wk : Wk J S xs) {tt : TT} {tk tv : TE} {vs : List Nat} {σ : St} {H1 : Hp} {D : Addr} {Qd : Hp → Prop} (Pv : Nat → Hp → Prop) (hS : ∀ i H, Pv i H → S H) (h0 : Pv 0 (upd H1 D (.dT [])))
    (hs : ∀ i x H, xs[i]? = some x → Pv i H → g x (wipe σ vs) H fun σ2 H2 => wipe σ2 vs = wipe σ vs ∧ tt σ2 H2 fun b H3 =>
      if b = true then tk σ2 H3 fun y H4 => tv σ2 H4 fun z H5 => ∃ kvs k b, y = .ref b ∧ H5 b = some (.tup (k.map kV)) ∧ H5 D = some (.dT kvs) ∧ kvs.length < sizeLine ∧ Pv (i + 1) (upd H5 D (.dT (putK kvs k z))) else Pv (i + 1) H3) (hd : ∀ H, Pv xs.length H → Qd H) :
    ∃ W : Nat → Nat → Hp → Prop, (∃ m, W 0 m (upd H1 D (.dT []))) ∧ ∀ i m H, W i m H →
      (J.stop i H ∧ Qd H) ∨ (J.go i H ∧ ∃ Nx : Hp → Prop, (∀ H', Nx H' → ∃ m', m' < m ∧ W (i + 1) m' H') ∧ ∀ x H', J.yld i H x H' → g x (wipe σ vs) H' fun σ2 H2 => wipe σ2 vs = wipe σ vs ∧ tt σ2 H2 fun b H3 =>
        if b = true then tk σ2 H3 fun y H4 => tv σ2 H4 fun z H5 => ∃ kvs k b, y = .ref b ∧ H5 b = some (.tup (k.map kV)) ∧ H5 D = some (.dT kvs) ∧ kvs.length < sizeLine ∧ Nx (upd H5 D (.dT (putK kvs k z))) else Nx H3) := by
  refine ⟨fun i m H => m + i = xs.length ∧ Pv i H, ⟨xs.length, rfl, h0⟩, ?_⟩
  rintro i m H ⟨e, p⟩
  cases m with
  | zero =>
    have e' : i = xs.length := by omega
    rw [e'] at p ⊢
    exact .inl ⟨wk.stop H (hS _ _ p), hd H p⟩
  | succ m =>
    have hlt : i < xs.length := by omega
    refine .inr ⟨wk.go i H (hS _ _ p) hlt, Pv (i + 1), fun H' p' => ⟨m, Nat.lt_succ_self m, by omega, p'⟩, fun x H' y => ?_⟩
    obtain ⟨eH, ex⟩ := wk.yld i H x H' (hS _ _ p) hlt y
    rw [eH]
    exact hs i x H ex p
end

def spTab : Sp := fun vs H Q _ => ∃ (e : Ex) (v : V), vs = [v] ∧ rE e v H ∧ ExOk e ∧
  ∀ (t F L Fo : Addr) (f : List Nat) (fo : List (List Nat)) (fos : List V) (H' : Hp), Same H H' → H' t = some (.tup [.str (sOf e.lets), .ref F, .ref L, .ref Fo, .bl e.hasE]) → H' F = some (.tup (f.map vN)) → H' Fo = some (.tup fos) →
    Paired (fun m v => rNs m v H') fo fos → TabOk e f fo → Q (.ref t) H'
def spCIn : Sp := fun vs H Q _ => ∃ (ls : List Bool) (t F L Fo : Addr) (b : Bool) (f : List Nat) (fo : List (List Nat)) (fos : List V), vs = [.ref t] ∧ H t = some (.tup [.str (sOf ls), .ref F, .ref L, .ref Fo, .bl b]) ∧ H F = some (.tup (f.map vN)) ∧ H Fo = some (.tup fos) ∧
  Paired (fun m v => rNs m v H) fo fos ∧ ls.length ≤ 8 ∧ fo.length ≤ 8 ∧ ((∀ x ∈ f, x < ls.length) ∧ ∀ m ∈ fo, ∀ x ∈ m, x < ls.length) ∧ (f.length ≤ 8 ∧ ∀ m ∈ fo, m.length ≤ 8) ∧
  ∀ (p : Addr) (C : List (Nat × Nat)) (H' : Hp), Same H H' → H p = none → rLP C p H' → C.Nodup → (∀ q, q ∈ C ↔ q ∈ (f :: fo).flatMap (prs ls)) → Q (.ref p) H'
def spConf : Sp := fun vs H Q _ => ∃ (e : Ex) (v : V), vs = [v] ∧ rE e v H ∧ ExOk e ∧
  ∀ (p : Addr) (C : List (Nat × Nat)) (cs : List V) (H' : Hp), Same H H' → H' p = some (.tup cs) → Paired (fun q v => rPr q v H') C cs → C.Nodup → (∀ q, q ∈ C ↔ Confl e q) → Q (.ref p) H'

section
variable {P : Program} {w : World} {K : PySem.W.Frag} {mg : Str → Option Value} {base : Heap} {k : Nat} {f : Addr} {fd : FuncData}
abbrev s_tables_of : Stmt := top 22
theorem sc_tables_of : FnScope ["expression", "letters", "firsts", "lasts", "pairs", "follow", "place", "one", "other"] ["expression"] (defScope s_tables_of) := ⟨rfl, rfl, rfl, by decide +kernel, rfl, by decide +kernel, by decide +kernel⟩
theorem ok_tables_of {ps1 ps2 ps3 ps4 : List Str} (T : Txt K mg) (F : Fun K "tables_of" "tables_of" s_tables_of f fd) (Cletters_of : Cd P w K mg base k "letters_of" ps1 (spLets 7)) (Cgathered : Cd P w K mg base k "gathered" ps2 (spGath 7)) (Cordered : Cd P w K mg base k "ordered" ps3 spOrd)
    (Chas_empty : Cd P w K mg base k "has_empty" ps4 (spHas 7)) : FnOk P w K mg base CX0 (k + 1) f fd ["expression"] spTab := by
  have nd := sc_tables_of.nd
  refine F.ok sc_tables_of (fun vs H Q E h => ?_) (fun cdv A outer s H vs Q E hr h => ?_)
  · obtain ⟨e, v, rfl, _⟩ := h
    rfl
  obtain ⟨e, v, rfl, hv, hx, q⟩ := h
  have w0 := gath0 hx
  refine ⟨_, (pss_cons (ps_set (i := 1) nd rfl (Or.inl rfl) (pe_cd Cletters_of hr (by rfl) (pa_cons (pv 0) pa_nil)))
      (pss_cons (ps_asg (pe_cd Cgathered hr (by rfl) (pa_cons (pv 0) (pa_cons pe_int pa_nil))) (pg_U (n := 3) rfl (pgs_cons (pg_name (i := 2) nd rfl (Or.inl rfl)) (pgs_cons (pg_name (i := 3) nd rfl (Or.inl rfl)) (pgs_cons (pg_name (i := 4) nd rfl (Or.inl rfl)) pgs_nil)))))
      (pss_cons (ps_set (i := 5) nd rfl (Or.inl rfl) (pe_lst pa_nil))
      (pss_cons (ps_for PassesOwn.never rfl (pi_range1 (by rfl) T.z_range (pa_cons (pe_callB call_len_str (by rfl) T.z_len (by decide +kernel) (pa_cons (pv 1) pa_nil)) pa_nil)) (pg_name (i := 6) nd rfl (Or.inr rfl)) (pss_one (ps_expr (pe_bm PySem.F.plainAttrs_list PySem.F.slot_list_append PySem.F.type_list_append mt_append (pv 5) (pa_cons (pe_cd Cordered hr (by rfl) (pa_cons (pe_lc (own := [("one", 7), ("other", 8)]) rfl nd (pi_L (pv 4)) (blkOk_by (own := [("one", 7), ("other", 8)]) (by kernel_rfl)) (fun _ _ _ _ _ => pg_U (n := 2) rfl (pgs_cons (pg_name (i := 7) nd rfl (Or.inl rfl)) (pgs_cons (pg_name (i := 8) nd rfl (Or.inl rfl)) pgs_nil))) (fun _ _ _ _ _ => pts_one (pt_cmpR op_eq (pv 7) (pv 6) (nomark _))) (fun _ _ _ _ _ => (pv 8))) pa_nil)) pa_nil)))))
      (pss_one (ps_ret (pe_tup (pa_cons (pv 1) (pa_cons (pe_cd Cordered hr (by rfl) (pa_cons (pv 2) pa_nil)) (pa_cons (pe_cd Cordered hr (by rfl) (pa_cons (pv 3) pa_nil)) (pa_cons (pe_callTy call_tuple2 (by rfl) T.z_tuple (by decide +kernel) (pa_cons (pv 5) pa_nil)) (pa_cons (pe_cd Chas_empty hr (by rfl) (pa_cons (pv 0) pa_nil)) pa_nil)))))))))))), ?_⟩
  refine ⟨_, rfl, e, v, 6, none, rfl, rfl, hv, hx.1, hx.2.1, fun H1 s1 => ?_⟩
  refine ⟨_, rfl, e, v, 6, 0, none, rfl, rfl, rE_ts (TS.of s1) _ _ hv, hx.1, hx.2.1, Nat.le_refl _, fun t0 fa la pa H2 s2 ht0 hG => ?_⟩
  refine ⟨t0, _, rfl, ht0, rfl, _, _, rfl, _, _, rfl, _, _, rfl, rfl, Nat.zero_le _, fun c hc => ?_⟩
  have s3 := same_new hc (.lst [])
  have hc3 : upd H2 c (.lst []) c = some (.lst []) := upd_same
  generalize upd H2 c (.lst []) = H3 at s3 hc3 ⊢
  have hls : (sOf e.lets).length ≤ sizeLine := by rw [sOf_len]; exact Nat.le_trans hx.2.1 (by decide)
  have hl8 : (sOf e.lets).length ≤ 8 := by rw [sOf_len]; exact hx.2.1
  refine ⟨_, rfl, _, rfl, hls, _, rfl, by omega, by omega, ?_⟩
  refine for_by (wk_rng (n := (sOf e.lets).length) (S := fun _ => True))
    (fun i σ H4 => ∃ (y6 : Option V) (fos : List V) (fo : List (List Nat)), σ = [some v, some (.str (sOf e.lets)), some (.ref fa), some (.ref la), some (.ref pa), some (.ref c), y6, none, none] ∧ Same H2 H4 ∧ H4 c = some (.lst fos) ∧ Paired (fun m v => rNs m v H4) fo fos ∧ fo.length = i ∧
      ∀ p m, fo[p]? = some m → m.Nodup ∧ ∀ x, x ∈ m ↔ (p, x) ∈ (gath e 0).p)
    (fun _ _ _ _ => trivial) ⟨none, [], [], rfl, s3, hc3, .nil, rfl, fun p m h => by simp at h⟩ ?_ ?_
  · rintro i x σ H4 hi ⟨y6, fos, fo, rfl, s4, hc4, hpr, hlen, hfo⟩
    obtain ⟨n, hn, rfl⟩ := pr_get (nat_pr _) hi
    have hin : i < (sOf e.lets).length := by
      have h1 := (List.getElem?_eq_some_iff.mp hi).1
      rw [List.length_map, List.length_range] at h1
      exact h1
    have en : n = i := by
      rw [List.getElem?_range hin] at hn
      exact (Option.some.inj hn).symm
    subst en
    obtain ⟨qs, hq1, hq2⟩ := hG.p
    refine ⟨_, rfl, .inl ⟨rfl, _, SqL.of hc4⟩, ?_⟩
    refine ⟨_, rfl, pa, qs, rfl, s4 _ _ hq1, fun K' D hD => ?_⟩
    have hpl := w0.pl
    refine lc_fun (R := fun q v => rPr q v H4) (l := (gath e 0).p) hD (wk_lst fun H5 s5 => s5 _ _ (s4 _ _ hq1)) (pr_imp hq2 fun _ _ _ r => rPr_ts (TS.of s4) r) (by omega) (fun q => decide (q.1 = n)) (fun q => vN q.2) (fun q u H5 hqm hR s5 Ky Kn k1 k0 => ?_) (fun H5 s5 hD5 => ?_)
    · obtain ⟨a, rfl, ha⟩ := rPr_ts (TS.of s5) hR
      refine ⟨a, _, rfl, ha, rfl, _, _, rfl, _, _, rfl, rfl, rfl, ?_⟩
      have e1 : decide (V.int (q.1 : Int) = V.int (n : Int)) = decide (q.1 = n) := decide_eq_decide.mpr ⟨fun z => Int.ofNat.inj (V.int.inj z), fun z => by rw [z]⟩
      refine ⟨_, rfl, _, rfl, rfl, _, rfl, ?_⟩
      rw [e1]
      by_cases h : q.1 = n
      · rw [decide_eq_true h]
        exact iteT ⟨_, rfl, k1 _ (decide_eq_true h) (Same.refl _)⟩
      · rw [decide_eq_false h]
        exact iteF (k0 _ (decide_eq_false h) (Same.refl _))
    · have hl : rLN (((gath e 0).p.filter fun q => decide (q.1 = n)).map Prod.snd) D H5 := by
        unfold rLN
        rw [hD5, List.map_map]
        rfl
      refine ⟨D, _, rfl, hl, fun x hxm => ?_, ?_, fun t m H6 s6 ht hnd hmem => ?_⟩
      · obtain ⟨q, hq, rfl⟩ := List.mem_map.mp hxm
        have := (w0.p q (List.mem_filter.mp hq).1).2.2
        have := hx.2.1
        omega
      · rw [List.length_map]
        exact Nat.le_trans (List.length_filter_le _ _) (by omega)
      · have hc6 := s6 _ _ (s5 _ _ hc4)
        have hfl := hpr.length
        refine ⟨c, fos, _, rfl, rfl, hc6, by rw [← hfl, hlen]; exact Nat.lt_of_lt_of_le (by omega : n < 8) (by decide), ?_⟩
        have h4c : H2 c = none := hc
        refine ⟨_, fos ++ [.ref t], fo ++ [m], rfl, same_mut (s4.trans (s5.trans s6)) h4c, upd_same, ?_, by rw [List.length_append, hlen]; rfl, fun p m' hm' => ?_⟩
        · refine pr_app (pr_imp hpr fun _ _ _ r => rNs_ts ((TS.of (s5.trans s6)).trans (TS.upd hc6)) r) (.cons ⟨t, rfl, ?_⟩ .nil)
          exact TS.upd hc6 _ _ ht
        · by_cases hp : p < fo.length
          · rw [List.getElem?_append_left hp] at hm'
            exact hfo p m' hm'
          · rw [List.getElem?_append_right (by omega)] at hm'
            have hp0 : p - fo.length = 0 := by
              have h1 := (List.getElem?_eq_some_iff.mp hm').1
              rw [List.length_singleton] at h1
              omega
            rw [hp0] at hm'
            have em : m = m' := Option.some.inj hm'
            have ep : p = n := by omega
            subst em ep
            refine ⟨hnd, fun y => ?_⟩
            rw [hmem, List.mem_map]
            constructor
            · rintro ⟨q, hq, rfl⟩
              obtain ⟨h1, h2⟩ := List.mem_filter.mp hq
              have h2 := of_decide_eq_true h2
              rw [← h2]
              exact h1
            · intro h1
              exact ⟨(p, y), List.mem_filter.mpr ⟨h1, decide_eq_true rfl⟩, rfl⟩
  · rintro σ H4 ⟨y6, fos, fo, rfl, s4, hc4, hpr, hlen, hfo⟩
    rw [List.length_map, List.length_range] at hlen
    have hfl := w0.fl
    have hll := w0.ll
    have h8 := hx.2.1
    refine ⟨_, rfl, _, rfl, fa, _, rfl, hG.f.same s4, fun x hm => by have := (w0.f x hm).2; omega, by omega, fun tf mf H5 s5 htf hnf hmf => ?_⟩
    refine ⟨_, rfl, la, _, rfl, hG.l.same (s4.trans s5), fun x hm => by have := (w0.l x hm).2; omega, by omega, fun tl ml H6 s6 htl hnl hml => ?_⟩
    refine ⟨_, rfl, c, fos, rfl, s6 _ _ (s5 _ _ hc4), fun to hto => ?_⟩
    have s7 := same_new hto (.tup fos)
    have ht7 : upd H6 to (.tup fos) to = some (.tup fos) := upd_same
    generalize upd H6 to (.tup fos) = H7 at s7 ht7 ⊢
    have s07 := s1.trans (s2.trans (s4.trans (s5.trans (s6.trans s7))))
    refine ⟨_, rfl, e, v, 6, none, rfl, rfl, rE_ts (TS.of s07) _ _ hv, hx.1, fun H8 s8 => ⟨by show 5 ≤ sizeLine; decide, fun t ht => ?_⟩⟩
    have s9 := same_new ht (.tup [.str (sOf e.lets), .ref tf, .ref tl, .ref to, .bl e.hasE])
    have s89 := s8.trans s9
    refine q t tf tl to mf fo fos _ (s07.trans s89) upd_same (s89 _ _ (s7 _ _ (s6 _ _ htf))) (s89 _ _ ht7) (pr_imp hpr fun _ _ _ r => rNs_ts (TS.of (s5.trans (s6.trans (s7.trans s89)))) r) ⟨hmf, hnf, by rw [hlen, sOf_len], hfo⟩

abbrev s_conflicts_in : Stmt := top 25
theorem sc_conflicts_in : FnScope ["tables", "found", "places", "pair"] ["tables"] (defScope s_conflicts_in) := ⟨rfl, rfl, rfl, by decide +kernel, rfl, by decide +kernel, by decide +kernel⟩
theorem ok_conflicts_in {ps1 : List Str} (T : Txt K mg) (F : Fun K "conflicts_in" "conflicts_in" s_conflicts_in f fd) (Cpairs_in : Cd P w K mg base k "pairs_in" ps1 spPrs) : FnOk P w K mg base CX0 (k + 1) f fd ["tables"] spCIn := by
  have nd := sc_conflicts_in.nd
  refine F.ok sc_conflicts_in (fun vs H Q E h => ?_) (fun cdv A outer s H vs Q E hr h => ?_)
  · obtain ⟨ls, t, F, L, Fo, b, ff, fo, fos, rfl, _⟩ := h
    rfl
  obtain ⟨ls, t, Fa, La, Fo, b, ff, fo, fos, rfl, ht, hF, hFo, hpr, h8, hfo8, ⟨hlo, hlm⟩, ⟨hf8, hm8⟩, q⟩ := h
  refine ⟨_, (pss_cons (ps_set (i := 1) nd rfl (Or.inl rfl) (pe_cd Cpairs_in hr (by rfl) (pa_cons (pe_ix it_tup (pv 0) pe_int (fun _ _ => rfl)) (pa_cons (pe_ix it_tup (pv 0) pe_int (fun _ _ => rfl)) pa_nil))))
      (pss_cons (ps_for PassesOwn.never rfl (pi_U (pe_ix it_tup (pv 0) pe_int (fun _ _ => rfl))) (pg_name (i := 2) nd rfl (Or.inl rfl)) (pss_one (ps_set (i := 1) nd rfl (Or.inl rfl) (pe_op op_cat (pv 1) (pe_cd Cpairs_in hr (by rfl) (pa_cons (pe_ix it_tup (pv 0) pe_int (fun _ _ => rfl)) (pa_cons (pv 2) pa_nil)))))))
      (pss_one (ps_ret (pe_callB (cr_sortedDT rfl hr.units) (by rfl) T.z_sorted (by decide +kernel) (pa_cons (pe_dcT (own := [("pair", 3)]) (g := gName 3) (tt := tYes) rfl hr.units nd (pi_L (pv 1)) (blkOk_by (own := [("pair", 3)]) (by kernel_rfl)) (fun _ _ _ _ _ => pg_name (i := 3) nd rfl (Or.inl rfl)) (fun _ _ _ _ _ => pts_nil) (fun _ _ _ _ _ => (pv 3)) (fun _ _ _ _ _ => pe_bl)) pa_nil)))))), ?_⟩
  refine ⟨_, rfl, _, _, 0, _, rfl, rfl, ht, rfl, _, rfl, _, _, 1, _, rfl, rfl, ht, rfl, ls, Fa, ff, rfl, hF, hlo, h8, by omega, fun p1 H1 s1 hp1 => ?_⟩
  refine ⟨_, rfl, _, _, 3, _, rfl, rfl, s1 _ _ ht, rfl, Fo, fos, rfl, s1 _ _ hFo, fun K' => ?_⟩
  have hlen : ∀ i, ((ff :: fo.take i).flatMap (prs ls)).length ≤ 64 * 9 := fun i => by
    have hall : ∀ (gs : List (List Nat)), (∀ g ∈ gs, g.length ≤ 8) → (gs.flatMap (prs ls)).length ≤ gs.length * 64 := by
      intro gs
      induction gs with
      | nil => intro _; exact Nat.zero_le _
      | cons g gs ih =>
        intro hg
        have h1 := len_prs ls g
        have h2 := hg g List.mem_cons_self
        have h3 := Nat.mul_le_mul h2 h2
        have h4 := ih fun g' hg' => hg g' (List.mem_cons_of_mem _ hg')
        rw [List.flatMap_cons, List.length_append, List.length_cons, Nat.succ_mul]
        omega
    have h1 := hall (ff :: fo.take i) fun g hg => by
      rcases List.mem_cons.mp hg with rfl | hg
      · exact hf8
      · exact hm8 g (List.mem_of_mem_take hg)
    rw [List.length_cons, List.length_take] at h1
    omega
  refine for_by (wk_tup fun H4 (s4 : Same H1 H4) => s4 _ _ (s1 _ _ hFo))
    (fun i σ H4 => ∃ (c : Addr) (y2 : Option V), σ = [some (.ref t), some (.ref c), y2, none] ∧ Same H1 H4 ∧ rLP ((ff :: fo.take i).flatMap (prs ls)) c H4)
    (fun i σ H4 ⟨_, _, _, h, _⟩ => h) ⟨p1, none, rfl, Same.refl _, by rw [List.take_zero, List.flatMap_cons, List.flatMap_nil, List.append_nil]; exact hp1⟩ ?_ ?_
  · rintro i x σ H4 hi ⟨c, y2, rfl, s4, hc⟩
    obtain ⟨m, hm, a, rfl, ha⟩ := pr_get hpr hi
    have hmm : m ∈ fo := List.mem_of_getElem? hm
    have s14 := s1.trans s4
    obtain ⟨qs, hq1, hq2⟩ := hc
    refine ⟨_, rfl, _, rfl, _, _, 0, _, rfl, rfl, s14 _ _ ht, rfl, _, rfl, ls, a, m, rfl, s14 _ _ ha, hlm m hmm, h8, by have := hm8 m hmm; omega, fun p2 H5 s5 hp2 => ?_⟩
    obtain ⟨rs, hr1, hr2⟩ := hp2
    have e1 : (ff :: fo.take (i + 1)).flatMap (prs ls) = (ff :: fo.take i).flatMap (prs ls) ++ prs ls m := by
      rw [take_snoc hm, ← List.cons_append, List.flatMap_append]
      simp
    refine ⟨c, p2, qs, rs, rfl, rfl, s5 _ _ hq1, hr1, ?_, fun c2 hc2 => ?_⟩
    · have h1 := hlen (i + 1)
      rw [e1, List.length_append, hq2.length, hr2.length] at h1
      exact Nat.le_trans h1 (by decide)
    · have s6 := same_new hc2 (.lst (qs ++ rs))
      refine ⟨c2, _, rfl, s4.trans (s5.trans s6), ?_⟩
      rw [e1]
      exact ⟨_, upd_same, pr_app (pr_imp hq2 fun _ _ _ r => rPr_ts (TS.of (s5.trans s6)) r) (pr_imp hr2 fun _ _ _ r => rPr_ts (TS.of s6) r)⟩
  · rintro σ H4 ⟨c, y2, rfl, s4, hc⟩
    rw [← hpr.length, List.take_length] at hc
    have hl := hlen fo.length
    rw [List.take_length] at hl
    generalize (ff :: fo).flatMap (prs ls) = fnd at hc q hl ⊢
    obtain ⟨qs, hq1, hq2⟩ := hc
    refine ⟨_, rfl, c, qs, rfl, hq1, fun K2 D hD => ?_⟩
    refine dcT_by (wk_lst fun H5 (s5 : Same H4 H5) => s5 _ _ hq1) (fun i H5 => Same H4 H5 ∧ H5 D = some (.dT (((ded (fnd.take i)).map key2).map keyT))) (fun i H5 h => h.1) ⟨same_new hD _, upd_same⟩ ?_ ?_
    · rintro i x H5 hi ⟨s5, h5⟩
      obtain ⟨z, hz, hR⟩ := pr_get hq2 hi
      obtain ⟨a, rfl, ha⟩ := rPr_ts (TS.of s5) hR
      refine ⟨rfl, yesT (iteT ⟨_, rfl, _, key2 z, a, rfl, ha, h5, ?_, same_mut s5 hD, ?_⟩)⟩
      · rw [List.length_map, List.length_map]
        have h3 := ded_len (fnd.take i)
        rw [List.length_take] at h3
        exact Nat.lt_of_le_of_lt (by omega : _ ≤ 1000) (by decide)
      · rw [upd_same, put_keys, addK_map key2_inj, ← ded_snoc, ← take_snoc hz]
    · rintro H5 ⟨s5, h5⟩
      rw [← hq2.length, List.take_length] at h5
      refine ⟨D, _, rfl, Rd.of h5, fun e he => ?_, fun p bs bs' hp hk hperm => ?_⟩
      · obtain ⟨kk, hkk, rfl⟩ := List.mem_map.mp he
        obtain ⟨z, _, rfl⟩ := List.mem_map.mp hkk
        exact ⟨z.1, z.2, rfl⟩
      · have hb := keys_pr (m := ded fnd) (show Paired (fun (p : List Key × V) (b : Addr) => H5 b = some (.tup (p.1.map kV))) _ _ from hk)
        obtain ⟨C, hC, hpC⟩ := pr_perm hperm hb
        have s6 := same_new hp (.lst (bs'.map V.ref))
        have hpn : H p = none := (s1.trans (s4.trans s5)).free hp
        refine q p C _ (s1.trans (s4.trans (s5.trans s6))) hpn ⟨bs'.map V.ref, upd_same, pr_refs s6 hpC⟩ (hC.nodup_iff.mpr (ded_nodup _)) (fun z => by rw [hC.mem_iff, ded_mem])

abbrev s_conflicts_of : Stmt := top 26
theorem sc_conflicts_of : FnScope ["expression"] ["expression"] (defScope s_conflicts_of) := ⟨rfl, rfl, rfl, by decide +kernel, rfl, by decide +kernel, by decide +kernel⟩
theorem ok_conflicts_of {ps1 ps2 : List Str} (T : Txt K mg) (F : Fun K "conflicts_of" "conflicts_of" s_conflicts_of f fd) (Cconflicts_in : Cd P w K mg base k "conflicts_in" ps1 spCIn) (Ctables_of : Cd P w K mg base k "tables_of" ps2 spTab) :
    FnOk P w K mg base CX0 (k + 1) f fd ["expression"] spConf := by
  have nd := sc_conflicts_of.nd
  refine F.ok sc_conflicts_of (fun vs H Q E h => ?_) (fun cdv A outer s H vs Q E hr h => ?_)
  · obtain ⟨e, v, rfl, _⟩ := h
    rfl
  obtain ⟨e, v, rfl, hv, hx, q⟩ := h
  refine ⟨_, (pss_one (ps_ret (pe_callTy call_tuple2 (by rfl) T.z_tuple (by decide +kernel) (pa_cons (pe_cd Cconflicts_in hr (by rfl) (pa_cons (pe_cd Ctables_of hr (by rfl) (pa_cons (pv 0) pa_nil)) pa_nil)) pa_nil)))), ?_⟩
  refine ⟨_, rfl, e, v, rfl, hv, hx, fun t F L Fo ff fo fos H1 s1 ht hF hFo hpr hT => ?_⟩
  refine ⟨_, t, F, L, Fo, _, ff, fo, fos, rfl, ht, hF, hFo, hpr, hx.2.1, (by rw [hT.len]; exact hx.2.1), hT.low hx, hT.few hx, fun p C H2 s2 _ hp hnd hmem => ?_⟩
  obtain ⟨qs, hq1, hq2⟩ := hp
  refine ⟨p, qs, rfl, hq1, fun t2 ht2 => ?_⟩
  have s3 := same_new ht2 (.tup qs)
  exact q t2 C qs _ (s1.trans (s2.trans s3)) upd_same (pr_imp hq2 fun _ _ _ r => rPr_ts (TS.of s3) r) hnd fun z => (hmem z).trans (hT.confl hx z)
end
end K65
end

section
set_option Elab.async false
set_option linter.all false
set_option maxRecDepth 100000
set_option maxHeartbeats 4000000
/-! The program's neighbours and its test of a coloring. -/
namespace K65
open PySem L2
open PyProof.Rows (envOfC)

/-- two places are in conflict -/
noncomputable def adjB (e : Ex) (p o : Nat) : Bool := @decide (Confl e (p, o) ∨ Confl e (o, p)) (Classical.propDecidable _)
theorem adjB_iff {e : Ex} {p o : Nat} : adjB e p o = true ↔ Confl e (p, o) ∨ Confl e (o, p) := by
  unfold adjB
  exact @decide_eq_true_iff _ (Classical.propDecidable _)
theorem confl_low {e : Ex} (h : ExOk e) {q : Nat × Nat} (c : Confl e q) : q.1 < e.lets.length ∧ q.2 < e.lets.length := by
  obtain ⟨_, _, h1 | ⟨p, h1, h2⟩⟩ := c
  · exact ⟨((gath0 h).f _ h1.1).2, ((gath0 h).f _ h1.2).2⟩
  · exact ⟨((gath0 h).p _ h1).2.2, ((gath0 h).p _ h2).2.2⟩
theorem adjB_irr {e : Ex} {p o : Nat} (h : adjB e p o = true) : p ≠ o := by
  rcases adjB_iff.mp h with c | c
  · have := c.1
    exact Nat.ne_of_lt this
  · have := c.1
    exact Nat.ne_of_gt this
theorem adjB_sym {e : Ex} (p o : Nat) : adjB e p o = adjB e o p := by
  apply Bool.eq_iff_iff.mpr
  rw [adjB_iff, adjB_iff]
  exact or_comm
theorem adjB_low {e : Ex} (hx : ExOk e) {p o : Nat} (h : adjB e p o = true) : p < e.lets.length ∧ o < e.lets.length := by
  rcases adjB_iff.mp h with c | c
  · exact confl_low hx c
  · exact (confl_low hx c).symm
/-- lists of lists of numbers: the rows stand at as -/
def Rows (as : List Addr) (near : List (List Nat)) (H : Hp) : Prop := as.length = near.length ∧ ∀ (i : Nat) (a : Addr) (m : List Nat), as[i]? = some a → near[i]? = some m → H a = some (.lst (m.map vN))
def rNear (near : List (List Nat)) (D : Addr) (H : Hp) : Prop := ∃ as : List Addr, H D = some (.lst (as.map V.ref)) ∧ Rows as near H
theorem rNear.same {near : List (List Nat)} {D : Addr} {H H' : Hp} (h : rNear near D H) (s : Same H H') : rNear near D H' := by
  obtain ⟨as, h1, h2, h3⟩ := h
  exact ⟨as, s _ _ h1, h2, fun i a m ha hm => s _ _ (h3 i a m ha hm)⟩
theorem nodup_at {α : Type} {l : List α} (h : l.Nodup) {i j : Nat} {a : α} (hi : l[i]? = some a) (hj : l[j]? = some a) : i = j := by
  obtain ⟨h1, h2⟩ := List.getElem?_eq_some_iff.mp hi
  obtain ⟨h3, h4⟩ := List.getElem?_eq_some_iff.mp hj
  have e : l[i] = l[j] := h2.trans h4.symm
  rcases Nat.lt_trichotomy i j with q | q | q
  · exact absurd e (List.pairwise_iff_getElem.mp h i j h1 h3 q)
  · exact q
  · exact absurd e.symm (List.pairwise_iff_getElem.mp h j i h3 h1 q)
theorem Rows.app {as : List Addr} {near : List (List Nat)} {H : Hp} (h : Rows as near H) (nd : as.Nodup) {i : Nat} {a : Addr} {m : List Nat} (ha : as[i]? = some a) (hm : near[i]? = some m) (x : Nat) :
    Rows as (near.set i (m ++ [x])) (upd H a (.lst (m.map vN ++ [vN x]))) := by
  refine ⟨by rw [List.length_set]; exact h.1, fun j b m' hb hm' => ?_⟩
  by_cases e : i = j
  · subst e
    have eb : a = b := Option.some.inj (ha.symm.trans hb)
    subst eb
    have hlt : i < near.length := (List.getElem?_eq_some_iff.mp hm).1
    rw [List.getElem?_set_self hlt] at hm'
    have em : m ++ [x] = m' := Option.some.inj hm'
    rw [← em, upd_same, List.map_append]
    rfl
  · rw [List.getElem?_set_ne e] at hm'
    have hne : b ≠ a := fun z => e (nodup_at nd ha (z ▸ hb))
    rw [upd_ne hne]
    exact h.2 j b m' hb hm'
structure NearOk (A : Nat → Nat → Bool) (n : Nat) (near : List (List Nat)) : Prop where
  len : near.length = n
  mem : ∀ p m, near[p]? = some m → ∀ o, o ∈ m ↔ A p o = true
theorem pairs_few {n : Nat} {C : List (Nat × Nat)} (hn : n ≤ 8) (nd : C.Nodup) (h : ∀ q ∈ C, q.1 < n ∧ q.2 < n) : C.length ≤ 64 := by
  have h1 : (C.map fun q => q.1 * 8 + q.2).Nodup := by
    show List.Pairwise _ _
    rw [List.pairwise_map]
    refine List.Pairwise.imp_of_mem (fun {a b} ha hb hab e => hab ?_) nd
    have h1 := h a ha
    have h2 := h b hb
    exact Prod.ext (by omega) (by omega)
  have h2 := nodup_le (k := 64) h1 fun x hx => by
    obtain ⟨q, hq, rfl⟩ := List.mem_map.mp hx
    have := h q hq
    omega
  rw [List.length_map] at h2
  exact h2
def isNum : V → Bool
  | .int i => decide (0 ≤ i) && decide (i ≤ 7)
  | _ => false
def spNum : Sp := fun vs H Q _ => ∃ v : V, vs = [v, .int 0, .int 7] ∧ flatV v = true ∧ ∀ H', Same H H' → Q (.bl (isNum v)) H'
def spNear : Sp := fun vs H Q _ => ∃ (e : Ex) (v : V), vs = [v] ∧ rE e v H ∧ ExOk e ∧ ∀ (D : Addr) (near : List (List Nat)) (H' : Hp), Same H H' → rNear near D H' → NearOk (adjB e) e.lets.length near → (∀ m ∈ near, m.length ≤ 1000) → Q (.ref D) H'
/-- is x a coloring that separates -/
inductive SepV (e : Ex) (H : Hp) : V → Bool → Prop where
  | kind {x : V} {n : String} : Knd H x n → kitB n "tuple" = some false → SepV e H x false
  | len {p : Addr} {xs : List V} : H p = some (.tup xs) → xs.length ≠ e.lets.length → SepV e H (.ref p) false
  | bad {p : Addr} {xs : List V} : H p = some (.tup xs) → xs.length = e.lets.length → (∀ y ∈ xs, flatV y = true) → (∃ y ∈ xs, isNum y = false) → SepV e H (.ref p) false
  | good {p : Addr} {c : List Nat} {r : Bool} : H p = some (.tup (c.map vN)) → c.length = e.lets.length → (∀ i ∈ c, i < 8) → (r = true ↔ ∀ q, Confl e q → c[q.1]? ≠ c[q.2]?) → SepV e H (.ref p) r
def spSep : Sp := fun vs H Q _ => ∃ (e : Ex) (v x : V) (r : Bool), vs = [v, x] ∧ rE e v H ∧ ExOk e ∧ SepV e H x r ∧ ∀ H', Same H H' → Q (.bl r) H'
theorem SepV.same {e : Ex} {H H' : Hp} {x : V} {r : Bool} (h : SepV e H x r) (s : Same H H') : SepV e H' x r := by
  cases h with
  | kind k1 k2 =>
    refine .kind ?_ k2
    cases k1 with
    | non => exact .non
    | bl b => exact .bl b
    | int i => exact .int i
    | str z => exact .str z
    | tup h => exact .tup (s _ _ h)
    | lst h => exact .lst (s _ _ h)
  | len h1 h2 => exact .len (s _ _ h1) h2
  | bad h1 h2 h3 h4 => exact .bad (s _ _ h1) h2 h3 h4
  | good h1 h2 h3 h4 => exact .good (s _ _ h1) h2 h3 h4

section
variable {P : Program} {w : World} {K : PySem.W.Frag} {mg : Str → Option Value} {base : Heap} {k : Nat} {f : Addr} {fd : FuncData}
abbrev s_is_number : Stmt := top 29
theorem sc_is_number : FnScope ["value", "low", "high"] ["value", "low", "high"] (defScope s_is_number) := ⟨rfl, rfl, rfl, by decide +kernel, rfl, by decide +kernel, by decide +kernel⟩
theorem ok_is_number (T : Txt K mg) (F : Fun K "is_number" "is_number" s_is_number f fd) : FnOk P w K mg base CX0 (k + 1) f fd ["value", "low", "high"] spNum := by
  have nd := sc_is_number.nd
  refine F.ok sc_is_number (fun vs H Q E h => ?_) (fun cdv A outer s H vs Q E hr h => ?_)
  · obtain ⟨v, rfl, _⟩ := h
    rfl
  obtain ⟨v, rfl, hfl, q⟩ := h
  refine ⟨_, (pss_one (ps_ret (pe_and (pe_callB call_isk (by rfl) T.z_isinstance (by decide +kernel) (pa_cons (pv 0) (pa_cons (pe_bltn (v := .ty "int") (by rfl) T.z_int (by decide +kernel) rfl) pa_nil))) (pe_and (pe_not (pe_callB call_isk (by rfl) T.z_isinstance (by decide +kernel) (pa_cons (pv 0) (pa_cons (pe_bltn (v := .ty "bool") (by rfl) T.z_bool (by decide +kernel) rfl) pa_nil)))) (pe_one (pe_chain op_le op_le (pv 1) (pv 0) (pv 2))))))), ?_⟩
  have q0 := q H (Same.refl H)
  cases v with
  | int i =>
    refine ⟨_, rfl, _, _, _, _, rfl, .int i, k_ii, _, rfl, iteT ⟨_, rfl, _, _, _, _, rfl, .int i, k_ib, _, rfl, _, rfl, iteT ?_⟩⟩
    refine ⟨_, rfl, _, rfl, _, _, rfl, rfl, _, rfl, ?_⟩
    have q1 : Q (.bl (decide (0 ≤ i) && decide (i ≤ 7))) H := q0
    by_cases h : 0 ≤ i
    · rw [decide_eq_true h] at q1 ⊢
      exact iteT ⟨_, rfl, _, _, rfl, rfl, q1⟩
    · rw [decide_eq_false h] at q1 ⊢
      exact iteF q1
  | non => exact ⟨_, rfl, _, _, _, _, rfl, .non, k_ni, _, rfl, iteF q0⟩
  | bl b => exact ⟨_, rfl, _, _, _, _, rfl, .bl b, k_bi, _, rfl, iteT ⟨_, rfl, _, _, _, _, rfl, .bl b, k_bb, _, rfl, _, rfl, iteF q0⟩⟩
  | str z => exact ⟨_, rfl, _, _, _, _, rfl, .str z, k_si, _, rfl, iteF q0⟩
  | byt b => cases hfl
  | flt b => cases hfl
  | ref a => cases hfl
  | ty n => cases hfl

abbrev s_neighbours_of : Stmt := top 30
theorem sc_neighbours_of : FnScope ["expression", "found", "one", "other", "letter"] ["expression"] (defScope s_neighbours_of) := ⟨rfl, rfl, rfl, by decide +kernel, rfl, by decide +kernel, by decide +kernel⟩
theorem ok_neighbours_of {ps1 ps2 : List Str} (T : Txt K mg) (F : Fun K "neighbours_of" "neighbours_of" s_neighbours_of f fd) (Cletters_of : Cd P w K mg base k "letters_of" ps1 (spLets 7)) (Cconflicts_of : Cd P w K mg base k "conflicts_of" ps2 spConf) :
    FnOk P w K mg base CX0 (k + 1) f fd ["expression"] spNear := by
  have nd := sc_neighbours_of.nd
  refine F.ok sc_neighbours_of (fun vs H Q E h => ?_) (fun cdv A outer s H vs Q E hr h => ?_)
  · obtain ⟨e, v, rfl, _⟩ := h
    rfl
  obtain ⟨e, v, rfl, hv, hx, q⟩ := h
  refine ⟨_, (pss_cons (ps_setLc (own := [("letter", 4)]) (g := gName 4) (tt := tYes) (i := 1) rfl nd rfl rfl (sw_true rfl rfl rfl (by decide +kernel)) (pi_str (pe_cd Cletters_of hr (by rfl) (pa_cons (pv 0) pa_nil))) (blkOk_by (own := [("letter", 4)]) (by kernel_rfl)) (fun _ _ _ _ _ => pg_name (i := 4) nd rfl (Or.inl rfl)) (fun _ _ _ _ _ => pts_nil) (fun _ _ _ _ _ => (pe_lst pa_nil)))
      (pss_cons (ps_for PassesOwn.never rfl (pi_U (pe_cd Cconflicts_of hr (by rfl) (pa_cons (pv 0) pa_nil))) (pg_U (n := 2) rfl (pgs_cons (pg_name (i := 2) nd rfl (Or.inl rfl)) (pgs_cons (pg_name (i := 3) nd rfl (Or.inl rfl)) pgs_nil))) (pss_cons (ps_expr (pe_bm PySem.F.plainAttrs_list PySem.F.slot_list_append PySem.F.type_list_append mt_append (pe_ix it_list (pv 1) (pv 2) (fun _ _ => rfl)) (pa_cons (pv 3) pa_nil)))
        (pss_one (ps_expr (pe_bm PySem.F.plainAttrs_list PySem.F.slot_list_append PySem.F.type_list_append mt_append (pe_ix it_list (pv 1) (pv 3) (fun _ _ => rfl)) (pa_cons (pv 2) pa_nil))))))
      (pss_one (ps_ret (pv 1))))), ?_⟩
  refine ⟨_, rfl, e, v, 6, none, rfl, rfl, hv, hx.1, hx.2.1, fun H1 s1 => ⟨_, rfl, fun D hD => ?_⟩⟩
  have hn8 := hx.2.1
  refine lc_by (wk_str (S := fun _ => True)) (fun i H2 => Same H1 H2 ∧ ∃ as : List Addr, H2 D = some (.lst (as.map V.ref)) ∧ as.length = i ∧ as.Nodup ∧ ∀ a ∈ as, H2 a = some (.lst []) ∧ H1 a = none ∧ a ≠ D) (fun _ _ _ => trivial)
    ⟨same_new hD _, [], upd_same, rfl, List.nodup_nil, fun _ h => (nomatch h)⟩ ?_ ?_
  · rintro i x H2 hi ⟨s2, as, hDs, hlen, hnd, has⟩
    have hi8 : i < 8 := by
      have h1 := (List.getElem?_eq_some_iff.mp hi).1
      rw [List.length_map, Array.length_toList] at h1
      have h2 : (sOf e.lets).cps.size = e.lets.length := sOf_len e.lets
      omega
    refine ⟨rfl, yesT (iteT ⟨Nat.zero_le _, fun z hz => ?_⟩)⟩
    have hDz : D ≠ z := ne_of_none hDs hz
    have s3 := same_new hz (.lst [])
    refine ⟨as.map V.ref, s3 _ _ hDs, by rw [List.length_map, hlen]; exact Nat.lt_of_lt_of_le hi8 (by decide), same_mut (s2.trans s3) hD, as ++ [z], ?_, by rw [List.length_append, hlen]; rfl, ?_, fun a ha => ?_⟩
    · rw [upd_same, List.map_append]; rfl
    · rw [List.nodup_append]
      refine ⟨hnd, by simp, fun a ha b hb e1 => ?_⟩
      rw [List.mem_singleton] at hb
      have h1 := (has a ha).1
      rw [e1, hb, hz] at h1
      cases h1
    · rcases List.mem_append.mp ha with h1 | h1
      · obtain ⟨h2, h3, h4⟩ := has a h1
        exact ⟨by rw [upd_ne h4]; exact s3 _ _ h2, h3, h4⟩
      · rw [List.mem_singleton] at h1
        subst h1
        exact ⟨by rw [upd_ne hDz.symm, upd_same], s2.free hz, hDz.symm⟩
  rintro H2 ⟨s2, as, hDs, hlen, hnd, has⟩
  rw [List.length_map, Array.length_toList] at hlen
  have hlen : as.length = e.lets.length := hlen.trans (sOf_len e.lets)
  have hv2 := rE_ts (TS.of (s1.trans s2)) _ _ hv
  refine ⟨_, rfl, e, v, rfl, hv2, hx, fun pc C cs H3 s3 hpc hprc hCn hCm => ⟨pc, cs, rfl, hpc, fun K' => ?_⟩⟩
  have hC64 : C.length ≤ 64 := pairs_few hn8 hCn fun z hz => confl_low hx ((hCm z).mp hz)
  have R0 : Rows as (List.replicate e.lets.length []) H3 := ⟨by rw [hlen, List.length_replicate], fun i a m ha hm => by
    have em : m = [] := List.eq_of_mem_replicate (List.mem_of_getElem? hm)
    rw [em]
    exact s3 _ _ (has a (List.mem_of_getElem? ha)).1⟩
  refine for_by (wk_tup fun H4 (t4 : TS H3 H4) => t4 _ _ hpc)
    (fun i σ H4 => ∃ (y2 y3 : Option V) (near : List (List Nat)), σ = [some v, some (.ref D), y2, y3, none] ∧ TS H3 H4 ∧ Same H1 H4 ∧ H4 D = some (.lst (as.map V.ref)) ∧ Rows as near H4 ∧ near.length = e.lets.length ∧
      ∀ p m, near[p]? = some m → m.length ≤ 2 * i ∧ ∀ o, o ∈ m ↔ (p, o) ∈ C.take i ∨ (o, p) ∈ C.take i)
    (fun i σ H4 ⟨_, _, _, _, h, _⟩ => h) ⟨none, none, _, rfl, TS.refl _, s2.trans s3, s3 _ _ hDs, R0, List.length_replicate, fun p m hm => by
      have em : m = [] := List.eq_of_mem_replicate (List.mem_of_getElem? hm)
      rw [em]
      exact ⟨Nat.zero_le _, fun o => by simp⟩⟩ ?_ ?_
  · rintro i x σ H4 hi ⟨y2, y3, near, rfl, t4, s4, hD4, R4, hnl, hmem⟩
    obtain ⟨z, hz, hR⟩ := pr_get hprc hi
    have hzC : z ∈ C := List.mem_of_getElem? hz
    have hzc := (hCm z).mp hzC
    obtain ⟨hz1, hz2⟩ := confl_low hx hzc
    have hz12 : z.1 ≠ z.2 := Nat.ne_of_lt hzc.1
    have hi64 : i < C.length := (List.getElem?_eq_some_iff.mp hz).1
    obtain ⟨a, rfl, ha⟩ := rPr_ts t4 hR
    refine ⟨a, _, rfl, ha, rfl, _, _, rfl, _, _, rfl, rfl, ?_⟩
    have has1 : as[z.1]? = some (as[z.1]'(by omega)) := List.getElem?_eq_getElem _
    have has2 : as[z.2]? = some (as[z.2]'(by omega)) := List.getElem?_eq_getElem _
    have hn1 : near[z.1]? = some (near[z.1]'(by omega)) := List.getElem?_eq_getElem _
    have hn2 : near[z.2]? = some (near[z.2]'(by omega)) := List.getElem?_eq_getElem _
    generalize as[z.1]'(by omega) = a1 at has1
    generalize as[z.2]'(by omega) = a2 at has2
    generalize near[z.1]'(by omega) = m1 at hn1
    generalize near[z.2]'(by omega) = m2 at hn2
    have ha1 := has a1 (List.mem_of_getElem? has1)
    have ha2 := has a2 (List.mem_of_getElem? has2)
    have hA1 := R4.2 _ _ _ has1 hn1
    have hlenm1 := (hmem _ _ hn1).1
    have hlenm2 := (hmem _ _ hn2).1
    refine ⟨_, rfl, _, rfl, D, _, z.1, .ref a1, rfl, rfl, hD4, by rw [List.getElem?_map, has1]; rfl, .inl ⟨rfl, _, SqL.of hA1⟩, _, rfl, a1, _, _, rfl, rfl, hA1, by rw [List.length_map]; exact Nat.lt_of_le_of_lt (by omega : _ ≤ 128) (by decide), ?_⟩
    have t5 := TS.upd (o := .lst (m1.map vN ++ [vN z.2])) hA1
    have R5 := R4.app hnd has1 hn1 z.2
    have hD5 : upd H4 a1 (.lst (m1.map vN ++ [vN z.2])) D = some (.lst (as.map V.ref)) := by rw [upd_ne ha1.2.2.symm]; exact hD4
    have s5 : Same H1 (upd H4 a1 (.lst (m1.map vN ++ [vN z.2]))) := same_mut s4 ha1.2.1
    generalize upd H4 a1 (.lst (m1.map vN ++ [vN z.2])) = H5 at t5 R5 hD5 s5 ⊢
    have hn2' : (near.set z.1 (m1 ++ [z.2]))[z.2]? = some m2 := by rw [List.getElem?_set_ne hz12]; exact hn2
    have hA2 := R5.2 _ _ _ has2 hn2'
    refine ⟨_, rfl, _, rfl, D, _, z.2, .ref a2, rfl, rfl, hD5, by rw [List.getElem?_map, has2]; rfl, .inl ⟨rfl, _, SqL.of hA2⟩, _, rfl, a2, _, _, rfl, rfl, hA2, by rw [List.length_map]; exact Nat.lt_of_le_of_lt (by omega : _ ≤ 128) (by decide), ?_⟩
    have R6 := R5.app hnd has2 hn2' z.1
    refine ⟨_, _, _, rfl, t4.trans (t5.trans (TS.upd hA2)), same_mut s5 ha2.2.1, by rw [upd_ne ha2.2.2.symm]; exact hD5, R6, by rw [List.length_set, List.length_set]; exact hnl, fun p m hm => ?_⟩
    have htk := take_snoc hz
    have hkey : ∀ o, ((p, o) ∈ C.take (i + 1) ∨ (o, p) ∈ C.take (i + 1)) ↔ ((p, o) ∈ C.take i ∨ (o, p) ∈ C.take i) ∨ (p = z.1 ∧ o = z.2) ∨ (o = z.1 ∧ p = z.2) := fun o => by
      rw [htk, List.mem_append, List.mem_append, List.mem_singleton, List.mem_singleton]
      have e1 : ((p, o) = z) ↔ (p = z.1 ∧ o = z.2) := ⟨fun e => by rw [← e]; exact ⟨rfl, rfl⟩, fun e => Prod.ext e.1 e.2⟩
      have e2 : ((o, p) = z) ↔ (o = z.1 ∧ p = z.2) := ⟨fun e => by rw [← e]; exact ⟨rfl, rfl⟩, fun e => Prod.ext e.1 e.2⟩
      rw [e1, e2]
      constructor
      · rintro ((h | h) | (h | h))
        · exact .inl (.inl h)
        · exact .inr (.inl h)
        · exact .inl (.inr h)
        · exact .inr (.inr h)
      · rintro ((h | h) | (h | h))
        · exact .inl (.inl h)
        · exact .inr (.inl h)
        · exact .inl (.inr h)
        · exact .inr (.inr h)
    by_cases e2 : z.2 = p
    · subst e2
      rw [List.getElem?_set_self (by rw [List.length_set]; omega)] at hm
      have em : m2 ++ [z.1] = m := Option.some.inj hm
      subst em
      refine ⟨by rw [List.length_append]; show m2.length + 1 ≤ _; omega, fun o => ?_⟩
      rw [hkey, List.mem_append, List.mem_singleton, (hmem _ _ hn2).2]
      constructor
      · rintro (h | h)
        · exact .inl h
        · exact .inr (.inr ⟨h, rfl⟩)
      · rintro (h | ⟨h, _⟩ | ⟨h, _⟩)
        · exact .inl h
        · exact absurd h.symm hz12
        · exact .inr h
    · rw [List.getElem?_set_ne e2] at hm
      by_cases e1 : z.1 = p
      · subst e1
        rw [List.getElem?_set_self (by omega)] at hm
        have em : m1 ++ [z.2] = m := Option.some.inj hm
        subst em
        refine ⟨by rw [List.length_append]; show m1.length + 1 ≤ _; omega, fun o => ?_⟩
        rw [hkey, List.mem_append, List.mem_singleton, (hmem _ _ hn1).2]
        constructor
        · rintro (h | h)
          · exact .inl h
          · exact .inr (.inl ⟨rfl, h⟩)
        · rintro (h | ⟨_, h⟩ | ⟨_, h⟩)
          · exact .inl h
          · exact .inr h
          · exact absurd h hz12
      · rw [List.getElem?_set_ne e1] at hm
        obtain ⟨h1, h2⟩ := hmem _ _ hm
        refine ⟨by omega, fun o => ?_⟩
        rw [hkey, h2]
        constructor
        · exact .inl
        · rintro (h | ⟨h, _⟩ | ⟨_, h⟩)
          · exact h
          · exact absurd h.symm e1
          · exact absurd h.symm e2
  · rintro σ H4 ⟨y2, y3, near, rfl, t4, s4, hD4, R4, hnl, hmem⟩
    rw [← hprc.length, List.take_length] at hmem
    refine ⟨_, rfl, q D near H4 (s1.trans s4) ⟨as, hD4, R4⟩ ⟨hnl, fun p m hm o => ?_⟩ fun m hm => ?_⟩
    · rw [(hmem p m hm).2, adjB_iff, hCm, hCm]
    · obtain ⟨p, hp⟩ := List.getElem?_of_mem hm
      have := (hmem p m hp).1
      omega

abbrev s_do_separate : Stmt := top 31
theorem sc_do_separate : FnScope ["expression", "value", "color", "one", "other"] ["expression", "value"] (defScope s_do_separate) := ⟨rfl, rfl, rfl, by decide +kernel, rfl, by decide +kernel, by decide +kernel⟩
theorem ok_do_separate {ps1 ps2 ps3 : List Str} (T : Txt K mg) (F : Fun K "do_separate" "do_separate" s_do_separate f fd) (Cletters_of : Cd P w K mg base k "letters_of" ps1 (spLets 7)) (Cis_number : Cd P w K mg base k "is_number" ps2 spNum) (Cconflicts_of : Cd P w K mg base k "conflicts_of" ps3 spConf) :
    FnOk P w K mg base CX0 (k + 1) f fd ["expression", "value"] spSep := by
  have nd := sc_do_separate.nd
  refine F.ok sc_do_separate (fun vs H Q E h => ?_) (fun cdv A outer s H vs Q E hr h => ?_)
  · obtain ⟨e, v, x, r, rfl, _⟩ := h
    rfl
  obtain ⟨e, v, x, r, rfl, hv, hx, hS, q⟩ := h
  refine ⟨_, (pss_cons (ps_if (PW.pt (pw_or (pt_not (pt_val (pe_callB call_isk (by rfl) T.z_isinstance (by decide +kernel) (pa_cons (pv 1) (pa_cons (pe_bltn (v := .ty "tuple") (by rfl) T.z_tuple (by decide +kernel) rfl) pa_nil))))) (pw_or1 (pt_cmpR op_ne (pe_callB call_len2 (by rfl) T.z_len (by decide +kernel) (pa_cons (pv 1) pa_nil)) (pe_callB call_len_str (by rfl) T.z_len (by decide +kernel) (pa_cons (pe_cd Cletters_of hr (by rfl) (pa_cons (pv 0) pa_nil)) pa_nil)) (nomark _))))) (pss_one (ps_ret pe_bl)) pss_nil)
      (pss_cons (ps_if (pt_not (pt_val (pe_callB (cr_all2 rfl) (by rfl) T.z_all (by decide +kernel) (pa_cons (pe_lc (own := [("color", 2)]) (g := gName 2) (tt := tYes) rfl nd (pi_U (pv 1)) (blkOk_by (own := [("color", 2)]) (by kernel_rfl)) (fun _ _ _ _ _ => pg_name (i := 2) nd rfl (Or.inl rfl)) (fun _ _ _ _ _ => pts_nil) (fun _ _ _ _ _ => (pe_cd Cis_number hr (by rfl) (pa_cons (pv 2) (pa_cons pe_int (pa_cons (pe_op op_sub (pe_gc T.MOST_COLORS (by rfl)) pe_int) pa_nil)))))) pa_nil)))) (pss_one (ps_ret pe_bl)) pss_nil)
      (pss_one (ps_ret (pe_callB (cr_all2 rfl) (by rfl) T.z_all (by decide +kernel) (pa_cons (pe_lc (own := [("one", 3), ("other", 4)]) (tt := tYes) rfl nd (pi_U (pe_cd Cconflicts_of hr (by rfl) (pa_cons (pv 0) pa_nil))) (blkOk_by (own := [("one", 3), ("other", 4)]) (by kernel_rfl)) (fun _ _ _ _ _ => pg_U (n := 2) rfl (pgs_cons (pg_name (i := 3) nd rfl (Or.inl rfl)) (pgs_cons (pg_name (i := 4) nd rfl (Or.inl rfl)) pgs_nil))) (fun _ _ _ _ _ => pts_nil) (fun _ _ _ _ _ => (pe_cmpR op_ne (pe_ix it_tup (pv 1) (pv 3) (fun _ _ => rfl)) (pe_ix it_tup (pv 1) (pv 4) (fun _ _ => rfl)) (nomark _)))) pa_nil)))))), ?_⟩
  have h8 := hx.2.1
  have hlenS : (sOf e.lets).length ≤ sizeLine := by rw [sOf_len]; exact Nat.le_trans h8 (by decide)
  -- the tuple's length, told by the letters
  cases hS with
  | kind kn kb => exact ⟨_, rfl, _, _, _, _, rfl, kn, kb, _, rfl, iteT (iteT (q _ (Same.refl H)))⟩
  | @len p xs hp hl =>
    refine ⟨_, rfl, _, _, _, _, rfl, .tup hp, k_uu, _, rfl, iteF ⟨_, rfl, p, _, rfl, .inr hp, _, rfl, e, v, 6, none, rfl, rfl, hv, hx.1, h8, fun H1 s1 => ⟨_, rfl, hlenS, rfl, _, rfl, ?_⟩⟩⟩
    have e1 : (!decide (V.int (xs.length : Int) = V.int ((sOf e.lets).length : Int))) = true := by
      rw [decide_eq_false (fun z => hl ?_)]
      · rfl
      · rw [← sOf_len e.lets]
        exact Int.ofNat.inj (V.int.inj z)
    rw [e1]
    exact iteT (q _ s1)
  | @bad p xs hp hl hfl hbad =>
    refine ⟨_, rfl, _, _, _, _, rfl, .tup hp, k_uu, _, rfl, iteF ⟨_, rfl, p, _, rfl, .inr hp, _, rfl, e, v, 6, none, rfl, rfl, hv, hx.1, h8, fun H1 s1 => ⟨_, rfl, hlenS, rfl, _, rfl, ?_⟩⟩⟩
    have e1 : (!decide (V.int (xs.length : Int) = V.int ((sOf e.lets).length : Int))) = false := by
      rw [decide_eq_true (by rw [sOf_len, hl])]
      rfl
    rw [e1]
    refine iteF ⟨_, rfl, p, _, rfl, s1 _ _ hp, fun K' D hD => ?_⟩
    refine lc_fun (R := fun (y : V) u => u = y) (l := xs) hD (wk_tup fun H3 s3 => s3 _ _ (s1 _ _ hp)) (by have h := pr_map (R := fun (y : V) u => u = y) (f := fun y => y) (fun _ => rfl) xs; rw [List.map_id'] at h; exact h) (by omega) (fun _ => true) (fun y => .bl (isNum y)) (fun y u H3 hy hR s3 Ky Kn k1 _ => ?_) (fun H3 s3 hD3 => ?_)
    · subst hR
      exact ⟨rfl, yesT (iteT ⟨_, rfl, _, _, rfl, rfl, _, rfl, hfl _ hy, fun H4 s4 => k1 _ rfl s4⟩)⟩
    · rw [filter_yes] at hD3
      have e5 : xs.map (fun y => V.bl (isNum y)) = (xs.map isNum).map V.bl := by rw [List.map_map]; rfl
      rw [e5] at hD3
      have e6 : (xs.map isNum).all id = false := by
        rw [List.all_map]
        obtain ⟨y, hy, hn⟩ := hbad
        exact List.all_eq_false.mpr ⟨y, hy, by show ¬ (id (isNum y)) = true; rw [hn]; decide⟩
      refine ⟨D, _, rfl, hD3, _, rfl, ?_⟩
      rw [e6]
      exact iteT (q _ (s1.trans s3))
  | @good p c r hp hl h7 hr' =>
    have hlc : (c.map vN).length = e.lets.length := by rw [List.length_map, hl]
    refine ⟨_, rfl, _, _, _, _, rfl, .tup hp, k_uu, _, rfl, iteF ⟨_, rfl, p, _, rfl, .inr hp, _, rfl, e, v, 6, none, rfl, rfl, hv, hx.1, h8, fun H1 s1 => ⟨_, rfl, hlenS, rfl, _, rfl, ?_⟩⟩⟩
    have e1 : (!decide (V.int ((c.map vN).length : Int) = V.int ((sOf e.lets).length : Int))) = false := by
      rw [decide_eq_true (by rw [sOf_len, hlc])]
      rfl
    rw [e1]
    refine iteF ⟨_, rfl, p, _, rfl, s1 _ _ hp, fun K' D hD => ?_⟩
    refine lc_fun (R := fun n v => v = vN n) (l := c) hD (wk_tup fun H3 s3 => s3 _ _ (s1 _ _ hp)) (nat_pr c) (by omega) (fun _ => true) (fun y => .bl true) (fun y u H3 hy hR s3 Ky Kn k1 _ => ?_) (fun H3 s3 hD3 => ?_)
    · subst hR
      have e2 : isNum (vN y) = true := by
        show (decide (0 ≤ (y : Int)) && decide ((y : Int) ≤ 7)) = true
        have := h7 y hy
        rw [decide_eq_true (by omega), decide_eq_true (by omega)]
        rfl
      refine ⟨rfl, yesT (iteT ⟨_, rfl, _, _, rfl, rfl, _, rfl, rfl, fun H4 s4 => ?_⟩)⟩
      show Ky (.bl (isNum (vN y))) H4
      rw [e2]
      exact k1 _ rfl s4
    · rw [filter_yes] at hD3
      have e5 : c.map (fun y => V.bl true) = (c.map fun _ => true).map V.bl := by rw [List.map_map]; rfl
      rw [e5] at hD3
      have e6 : (c.map fun _ => true).all id = true := by rw [List.all_map]; exact List.all_eq_true.mpr fun _ _ => rfl
      refine ⟨D, _, rfl, hD3, _, rfl, ?_⟩
      rw [e6]
      have s13 := s1.trans s3
      refine iteF ⟨_, rfl, e, v, rfl, rE_ts (TS.of s13) _ _ hv, hx, fun pc C cs H4 s4 hpc hprc hCn hCm => ⟨pc, cs, rfl, hpc, fun K' D2 hD2 => ?_⟩⟩
      have hC64 : C.length ≤ 64 := pairs_few h8 hCn fun z hz => confl_low hx ((hCm z).mp hz)
      have hp4 := s4 _ _ (s13 _ _ hp)
      refine lc_fun (R := fun q v => rPr q v H4) (l := C) hD2 (wk_tup fun H5 s5 => s5 _ _ hpc) hprc (by omega) (fun _ => true) (fun z => .bl (!decide (c[z.1]? = c[z.2]?))) (fun z u H5 hz hR s5 Ky Kn k1 _ => ?_) (fun H5 s5 hD5 => ?_)
      · obtain ⟨a, rfl, ha⟩ := rPr_ts (TS.of s5) hR
        obtain ⟨hz1, hz2⟩ := confl_low hx ((hCm z).mp hz)
        refine ⟨a, _, rfl, ha, rfl, _, _, rfl, _, _, rfl, rfl, rfl, yesT (iteT ?_)⟩
        have g1 : c[z.1]? = some (c[z.1]'(by omega)) := List.getElem?_eq_getElem _
        have g2 : c[z.2]? = some (c[z.2]'(by omega)) := List.getElem?_eq_getElem _
        have e7 : (!decide (V.int ((c[z.1]'(by omega) : Nat) : Int) = V.int ((c[z.2]'(by omega) : Nat) : Int))) = (!decide (c[z.1]? = c[z.2]?)) := by
          congr 1
          refine decide_eq_decide.mpr ⟨fun h => ?_, fun h => ?_⟩
          · rw [g1, g2, Int.ofNat.inj (V.int.inj h)]
          · rw [g1, g2] at h
            rw [Option.some.inj h]
        refine ⟨_, rfl, _, rfl, p, _, z.1, _, rfl, rfl, s5 _ _ hp4, (by rw [List.getElem?_map, g1]; rfl), _, rfl, _, rfl, p, _, z.2, _, rfl, rfl, s5 _ _ hp4, (by rw [List.getElem?_map, g2]; rfl), rfl, ?_⟩
        rw [e7]
        exact k1 _ rfl (Same.refl _)
      · rw [filter_yes] at hD5
        have e8 : C.map (fun z => V.bl (!decide (c[z.1]? = c[z.2]?))) = (C.map fun z => !decide (c[z.1]? = c[z.2]?)).map V.bl := by rw [List.map_map]; rfl
        rw [e8] at hD5
        refine ⟨D2, _, rfl, hD5, ?_⟩
        have e9 : (C.map fun z => !decide (c[z.1]? = c[z.2]?)).all id = r := by
          rw [List.all_map]
          apply Bool.eq_iff_iff.mpr
          rw [hr', List.all_eq_true]
          constructor
          · intro h z hz
            have := h z ((hCm z).mpr hz)
            simpa using this
          · intro h z hz
            have := h z ((hCm z).mp hz)
            simpa using this
        rw [e9]
        exact q _ (s13.trans (s4.trans s5))

abbrev s_separates : Stmt := top 32
theorem sc_separates : FnScope ["expression", "value"] ["expression", "value"] (defScope s_separates) := ⟨rfl, rfl, rfl, by decide +kernel, rfl, by decide +kernel, by decide +kernel⟩
theorem ok_separates {ps1 ps2 : List Str} (T : Txt K mg) (F : Fun K "separates" "separates" s_separates f fd) (Ccheck_expression : Cd P w K mg base k "check_expression" ps1 spCheck) (Cdo_separate : Cd P w K mg base k "do_separate" ps2 spSep) :
    FnOk P w K mg base CX0 (k + 1) f fd ["expression", "value"] spSep := by
  have nd := sc_separates.nd
  refine F.ok sc_separates (fun vs H Q E h => ?_) (fun cdv A outer s H vs Q E hr h => ?_)
  · obtain ⟨e, v, x, r, rfl, _⟩ := h
    rfl
  obtain ⟨e, v, x, r, rfl, hv, hx, hS, q⟩ := h
  refine ⟨_, (pss_cons (ps_expr (pe_cd Ccheck_expression hr (by rfl) (pa_cons (pv 0) pa_nil)))
      (pss_one (ps_ret (pe_cd Cdo_separate hr (by rfl) (pa_cons (pv 0) (pa_cons (pv 1) pa_nil)))))), ?_⟩
  exact ⟨_, rfl, e, v, rfl, hv, hx, fun H1 s1 => ⟨_, rfl, _, rfl, e, v, x, r, rfl, rE_ts (TS.of s1) _ _ hv, hx, hS.same s1, fun H2 s2 => q _ (s1.trans s2)⟩⟩
end
end K65
end

section
set_option Elab.async false
set_option linter.all false
set_option maxRecDepth 100000
set_option maxHeartbeats 4000000
/-! The program's colors. -/
namespace K65
open PySem L2
open PyProof.Rows (envOfC)

/-- a coloring, or None -/
def resV : Option (List Nat) → V → Hp → Prop
  | none, v, _ => v = .non
  | some x, v, H => rNs x v H
def spFirst : Sp := fun vs H Q _ => ∃ (D : Addr) (near : List (List Nat)) (n many : Nat) (A : Nat → Nat → Bool), vs = [.ref D, vN many] ∧ rNear near D H ∧ NearOk A n near ∧ n ≤ 8 ∧ many ≤ 8 ∧ (∀ m ∈ near, m.length ≤ 1000) ∧
  ∀ (v : V) (H' : Hp), Same H H' → resV (cols A many n).head? v H' → Q v H'
def spCrowd : Sp := fun vs H Q _ => ∃ (D : Addr) (near : List (List Nat)) (n : Nat) (A : Nat → Nat → Bool), vs = [.ref D] ∧ rNear near D H ∧ NearOk A n near ∧ n ≤ 8 ∧
  ∀ (t : Addr) (cr : List Nat) (H' : Hp), Same H H' → H' t = some (.tup (cr.map vN)) → Crowd A n cr → Q (.ref t) H'

theorem run_end {A : Nat → Nat → Bool} {n k m c : Nat} {f : List Nat} {res : Option (List Nat)} (h : Run A n k f c m res) (hf : ¬ f.length < n) : res = some f := by
  cases h with
  | done _ => rfl
  | push q _ _ => exact absurd q hf
  | fail q _ => exact absurd q hf
  | pop q _ _ => rw [List.length_append, List.length_singleton] at hf; exact absurd q hf
theorem run_push {A : Nat → Nat → Bool} {n k m c : Nat} {f : List Nat} {res : Option (List Nat)} (h : Run A n k f c m res) (hf : f.length < n) (hc : nx A f (k - c) c < k) : ∃ m', m' < m ∧ Run A n k (f ++ [nx A f (k - c) c]) 0 m' res := by
  cases h with
  | done q => omega
  | push _ _ q => exact ⟨_, Nat.lt_succ_self _, q⟩
  | fail _ q => exact absurd hc q
  | pop _ q _ => exact absurd hc q
theorem run_fail {A : Nat → Nat → Bool} {n k m c : Nat} {res : Option (List Nat)} (h : Run A n k [] c m res) (hf : 0 < n) (hc : ¬ nx A [] (k - c) c < k) : res = none := by
  generalize e : ([] : List Nat) = f at h
  cases h with
  | done q => rw [← e] at q; exact absurd hf (by rw [← q]; exact Nat.lt_irrefl _)
  | push _ q _ => rw [← e] at q; exact absurd q hc
  | fail _ _ => rfl
  | pop _ _ _ => simp at e
theorem run_pop {A : Nat → Nat → Bool} {n k m c d : Nat} {g : List Nat} {res : Option (List Nat)} (h : Run A n k (g ++ [d]) c m res) (hf : (g ++ [d]).length < n) (hc : ¬ nx A (g ++ [d]) (k - c) c < k) : ∃ m', m' < m ∧ Run A n k g (d + 1) m' res := by
  generalize e : g ++ [d] = f at h
  cases h with
  | done q => rw [← e] at q; omega
  | push _ q _ => rw [← e] at q; exact absurd q hc
  | fail _ _ => simp at e
  | @pop f' d' _ _ _ _ _ q =>
    obtain ⟨e1, e2⟩ := List.append_inj' e rfl
    subst e1
    injection e2 with e2 _
    subst e2
    exact ⟨_, Nat.lt_succ_self _, q⟩
theorem okc_any {A : Nat → Nat → Bool} {n : Nat} {near : List (List Nat)} (ok : NearOk A n near) {fnd m : List Nat} (hm : near[fnd.length]? = some m) (c : Nat) :
    ((m.filter fun o => decide (o < fnd.length)).map fun o => decide (fnd[o]? = some c)).any id = !okc A fnd c := by
  have h := ok.mem _ _ hm
  apply Bool.eq_iff_iff.mpr
  rw [List.any_eq_true, Bool.not_eq_true', ← Bool.not_eq_true, okc_iff]
  constructor
  · rintro ⟨b, hb, e⟩ hall
    obtain ⟨o, ho, rfl⟩ := List.mem_map.mp hb
    obtain ⟨h1, h2⟩ := List.mem_filter.mp ho
    exact hall o (of_decide_eq_true h2) ((h o).mp h1) (of_decide_eq_true e)
  · intro hn
    by_cases hex : ∃ o, o < fnd.length ∧ A fnd.length o = true ∧ fnd[o]? = some c
    · obtain ⟨o, h1, h2, h3⟩ := hex
      exact ⟨_, List.mem_map.mpr ⟨o, List.mem_filter.mpr ⟨(h o).mpr h2, decide_eq_true h1⟩, rfl⟩, by rw [decide_eq_true h3]; rfl⟩
    · exact absurd (fun o h1 h2 h3 => hex ⟨o, h1, h2, h3⟩) hn
theorem near_row {near : List (List Nat)} {as : List Addr} {H : Hp} (R : Rows as near H) {i : Nat} (hi : i < near.length) : ∃ a m, as[i]? = some a ∧ near[i]? = some m ∧ H a = some (.lst (m.map vN)) := by
  have h1 : as[i]? = some (as[i]'(by have := R.1; omega)) := List.getElem?_eq_getElem _
  have h2 : near[i]? = some near[i] := List.getElem?_eq_getElem hi
  exact ⟨_, _, h1, h2, R.2 _ _ _ h1 h2⟩
theorem rNear_get {near : List (List Nat)} {as : List Addr} {D : Addr} {H : Hp} (h : H D = some (.lst (as.map V.ref))) (R : Rows as near H) {i : Nat} (hi : i < near.length) :
    ∃ a m, (as.map V.ref)[i]? = some (.ref a) ∧ near[i]? = some m ∧ H a = some (.lst (m.map vN)) := by
  obtain ⟨a, m, h1, h2, h3⟩ := near_row R hi
  exact ⟨a, m, by rw [List.getElem?_map, h1]; rfl, h2, h3⟩
theorem int_lt (a b : Nat) : decide ((a : Int) < (b : Int)) = decide (a < b) := decide_eq_decide.mpr Int.ofNat_lt
theorem int_eq (a b : Nat) : decide (V.int (a : Int) = V.int (b : Int)) = decide (a = b) := decide_eq_decide.mpr ⟨fun z => Int.ofNat.inj (V.int.inj z), fun z => by rw [z]⟩

section
variable {P : Program} {w : World} {K : PySem.W.Frag} {mg : Str → Option Value} {base : Heap} {k : Nat} {f : Addr} {fd : FuncData}
abbrev s_first_coloring : Stmt := top 33
theorem sc_first_coloring : FnScope ["near", "many", "found", "color", "place", "other"] ["near", "many"] (defScope s_first_coloring) := ⟨rfl, rfl, rfl, by decide +kernel, rfl, by decide +kernel, by decide +kernel⟩
theorem ok_first_coloring (T : Txt K mg) (F : Fun K "first_coloring" "first_coloring" s_first_coloring f fd) : FnOk P w K mg base CX0 (k + 1) f fd ["near", "many"] spFirst := by
  have nd := sc_first_coloring.nd
  refine F.ok sc_first_coloring (fun vs H Q E h => ?_) (fun cdv A outer s H vs Q E hr h => ?_)
  · obtain ⟨D, near, n, many, A, rfl, _⟩ := h
    rfl
  obtain ⟨D, near, n, many, G, rfl, ⟨as, hDs, hR⟩, ok, hn8, hm8, hrow, q⟩ := h
  refine ⟨_, (pss_cons (ps_set (i := 2) nd rfl (Or.inr rfl) (pe_lst pa_nil))
      (pss_cons (ps_set (i := 3) nd rfl (Or.inr rfl) pe_int)
      (pss_cons (ps_while PassesOwn.never (pt_cmpR op_lt (pe_callB call_len2 (by rfl) T.z_len (by decide +kernel) (pa_cons (pv 2) pa_nil)) (pe_callB call_len2 (by rfl) T.z_len (by decide +kernel) (pa_cons (pv 0) pa_nil)) (nomark _)) (pss_cons (ps_set (i := 4) nd rfl (Or.inr rfl) (pe_callB call_len2 (by rfl) T.z_len (by decide +kernel) (pa_cons (pv 2) pa_nil)))
        (Evl.pss_cut (ps_while PassesOwn.never (PW.pt (pw_and (pt_cmpR op_lt (pv 3) (pv 1) (nomark _)) (pw_and1 (pt_val (pe_callB (cr_any2 rfl) (by rfl) T.z_any (by decide +kernel) (pa_cons (pe_lc (own := [("other", 5)]) (g := gName 5) rfl nd (pi_L (pe_ix it_list (pv 0) (pv 4) (fun _ _ => rfl))) (blkOk_by (own := [("other", 5)]) (by kernel_rfl)) (fun _ _ _ _ _ => pg_name (i := 5) nd rfl (Or.inl rfl)) (fun _ _ _ _ _ => pts_one (pt_cmpR op_lt (pv 5) (pv 4) (nomark _))) (fun _ _ _ _ _ => (pe_cmpR op_eq (pe_ix it_list (pv 2) (pv 5) (fun _ _ => rfl)) (pv 3) (nomark _)))) pa_nil)))))) (pss_one (ps_set (i := 3) nd rfl (Or.inr rfl) (pe_op op_add (pv 3) pe_int))))
        (pss_one (ps_if (pt_cmpR op_lt (pv 3) (pv 1) (nomark _)) (pss_cons (ps_expr (pe_bm PySem.F.plainAttrs_list PySem.F.slot_list_append PySem.F.type_list_append mt_append (pv 2) (pa_cons (pv 3) pa_nil)))
          (pss_one (ps_set (i := 3) nd rfl (Or.inr rfl) pe_int))) (pss_one (ps_if (pt_cmpR op_eq (pv 4) pe_int (nomark _)) (pss_one (ps_ret pe_non)) (pss_one (ps_set (i := 3) nd rfl (Or.inr rfl) (pe_op op_add (pe_bm0 PySem.F.plainAttrs_list PySem.F.slot_list_pop PySem.F.type_list_pop mt_pop (pv 2)) pe_int))))))))))
      (pss_one (ps_ret (pe_callTy call_tuple2 (by rfl) T.z_tuple (by decide +kernel) (pa_cons (pv 2) pa_nil))))))), ?_⟩
  refine ⟨Nat.zero_le _, fun fa hfa => ?_⟩
  have s1 := same_new hfa (.lst [])
  have hf1 : upd H fa (.lst []) fa = some (.lst []) := upd_same
  generalize upd H fa (.lst []) = H1 at s1 hf1 ⊢
  obtain ⟨m0, run0⟩ := search G n many
  refine ⟨fun m σ H2 => ∃ (fnd : List Nat) (c : Nat) (y4 : Option V), σ = [some (.ref D), some (vN many), some (.ref fa), some (vN c), y4, none] ∧ Same H H2 ∧ H2 fa = some (.lst (fnd.map vN)) ∧ c ≤ many ∧ Run G n many fnd c m (cols G many n).head? ∧ fnd.length ≤ n ∧ ∀ d ∈ fnd, d < many,
    ⟨m0, [], 0, none, rfl, s1, hf1, Nat.zero_le _, run0, Nat.zero_le _, fun _ h => (nomatch h)⟩, ?_⟩
  rintro m σ H2 ⟨fnd, c, y4, rfl, s2, hf2, hcm, run, hfn, hfl⟩
  have hD2 := s2 _ _ hDs
  have hR2 : Rows as near H2 := ⟨hR.1, fun i a x h1 h2 => s2 _ _ (hR.2 i a x h1 h2)⟩
  have eN : (as.map V.ref).length = n := by rw [List.length_map, hR.1, ok.len]
  have eF : (fnd.map vN).length = fnd.length := List.length_map _
  refine ⟨_, rfl, fa, _, rfl, .inl hf2, _, rfl, D, _, rfl, .inl hD2, _, _, rfl, rfl, _, rfl, ?_⟩
  rw [int_lt, eN, eF]
  by_cases hlt : fnd.length < n
  · rw [decide_eq_true hlt]
    refine iteT ⟨fun σ' H' => ∃ m', m' < m ∧ ∃ (fnd : List Nat) (c : Nat) (y4 : Option V), σ' = [some (.ref D), some (vN many), some (.ref fa), some (vN c), y4, none] ∧ Same H H' ∧ H' fa = some (.lst (fnd.map vN)) ∧ c ≤ many ∧ Run G n many fnd c m' (cols G many n).head? ∧ fnd.length ≤ n ∧ ∀ d ∈ fnd, d < many,
      fun _ _ h => h, ?_⟩
    -- place = len(found)
    refine ⟨_, rfl, fa, _, rfl, .inl hf2, ?_⟩
    rw [eF]
    obtain ⟨ra, rm, hra, hrm, hrA⟩ := rNear_get hD2 hR2 (by rw [ok.len]; exact hlt)
    have hrml := hrow rm (List.mem_of_getElem? hrm)
    -- the inner loop
    refine ⟨fun σ' H' => σ' = [some (.ref D), some (vN many), some (.ref fa), some (vN (nx G fnd (many - c) c)), some (vN fnd.length), none] ∧ Same H2 H', ?_, ?_⟩
    · refine ⟨fun j σ' H' => ∃ c2 : Nat, σ' = [some (.ref D), some (vN many), some (.ref fa), some (vN c2), some (vN fnd.length), none] ∧ Same H2 H' ∧ j = many - c2 ∧ c2 ≤ many ∧ nx G fnd (many - c) c = nx G fnd (many - c2) c2,
        ⟨many - c, c, rfl, Same.refl _, rfl, hcm, rfl⟩, ?_⟩
      rintro j σ' H3 ⟨c2, rfl, s3, rfl, hc2, hnx⟩
      refine ⟨_, rfl, _, rfl, _, _, rfl, rfl, _, rfl, ?_⟩
      rw [int_lt]
      by_cases hcm2 : c2 < many
      · rw [decide_eq_true hcm2]
        refine iteT ⟨_, rfl, _, rfl, D, _, fnd.length, .ref ra, rfl, rfl, s3 _ _ hD2, hra, ra, _, rfl, s3 _ _ hrA, fun K' D2 hDn => ?_⟩
        refine lc_fun (R := fun n v => v = vN n) (l := rm) hDn (wk_lst fun H4 s4 => s4 _ _ (s3 _ _ hrA)) (nat_pr rm) (by omega) (fun o => decide (o < fnd.length)) (fun o => .bl (decide (fnd[o]? = some c2))) (fun o u H4 ho hRo s4 Ky Kn k1 k0 => ?_) (fun H4 s4 hD4 => ?_)
        · subst hRo
          refine ⟨rfl, _, rfl, _, rfl, _, _, rfl, rfl, _, rfl, ?_⟩
          rw [int_lt]
          by_cases hof : o < fnd.length
          · rw [decide_eq_true hof]
            have hg : fnd[o]? = some fnd[o] := List.getElem?_eq_getElem hof
            refine iteT ⟨_, rfl, _, rfl, fa, _, o, vN fnd[o], rfl, rfl, s4 _ _ (s3 _ _ hf2), (by rw [List.getElem?_map, hg]; rfl), _, rfl, rfl, ?_⟩
            have e1 : decide (vN fnd[o] = vN c2) = decide (fnd[o]? = some c2) := by
              rw [int_eq, hg]
              exact decide_eq_decide.mpr ⟨fun z => by rw [z], fun z => Option.some.inj z⟩
            rw [e1]
            exact k1 _ (decide_eq_true hof) (Same.refl _)
          · rw [decide_eq_false hof]
            exact iteF (k0 _ (decide_eq_false hof) (Same.refl _))
        · have e5 : (rm.filter fun o => decide (o < fnd.length)).map (fun o => V.bl (decide (fnd[o]? = some c2))) = ((rm.filter fun o => decide (o < fnd.length)).map fun o => decide (fnd[o]? = some c2)).map V.bl := by rw [List.map_map]; rfl
          rw [e5] at hD4
          refine ⟨D2, _, rfl, hD4, _, rfl, ?_⟩
          rw [okc_any ok hrm c2]
          cases hok : okc G fnd c2 with
          | true =>
            refine iteF ⟨?_, s3.trans s4⟩
            rw [hnx, nx_ok G hok]
          | false =>
            refine iteT ⟨fun σ' H' => ∃ j', j' < many - c2 ∧ ∃ c2 : Nat, σ' = [some (.ref D), some (vN many), some (.ref fa), some (vN c2), some (vN fnd.length), none] ∧ Same H2 H' ∧ j' = many - c2 ∧ c2 ≤ many ∧ nx G fnd (many - c) c = nx G fnd (many - c2) c2, fun _ _ h => h, ?_⟩
            refine ⟨_, rfl, _, _, rfl, rfl, ?_⟩
            have e6 : V.int ((c2 : Int) + 1) = vN (c2 + 1) := rfl
            exact ⟨many - (c2 + 1), by omega, c2 + 1, rfl, s3.trans s4, rfl, by omega, hnx.trans (nx_no G hcm2 hok)⟩
      · rw [decide_eq_false hcm2]
        refine iteF (iteF ⟨?_, s3⟩)
        rw [hnx, nx_end G (by omega)]
    · rintro σ' H3 ⟨rfl, s3⟩
      have hf3 := s3 _ _ hf2
      have hnl : nx G fnd (many - c) c ≤ many := by
        have := nx_le G (row := fnd) (r := many - c) (c := c)
        omega
      refine ⟨_, rfl, _, rfl, _, _, rfl, rfl, _, rfl, ?_⟩
      rw [int_lt]
      by_cases hc2 : nx G fnd (many - c) c < many
      · rw [decide_eq_true hc2]
        obtain ⟨m', hm', r'⟩ := run_push run hlt hc2
        refine iteT ⟨_, rfl, .inl ⟨rfl, _, SqL.of hf3⟩, _, rfl, fa, _, _, rfl, rfl, hf3, by rw [eF]; exact Nat.lt_of_lt_of_le (by omega : fnd.length < 8) (by decide), ?_⟩
        refine ⟨m', hm', fnd ++ [nx G fnd (many - c) c], 0, _, rfl, same_mut (s2.trans s3) hfa, ?_, Nat.zero_le _, r', by rw [List.length_append]; exact hlt, fun d hd => ?_⟩
        · rw [upd_same, List.map_append]; rfl
        · rcases List.mem_append.mp hd with h1 | h1
          · exact hfl d h1
          · rw [List.mem_singleton] at h1
            omega
      · rw [decide_eq_false hc2]
        refine iteF ⟨_, rfl, rfl, _, rfl, ?_⟩
        rw [show decide (V.int ((fnd.length : Nat) : Int) = V.int 0) = decide (fnd.length = 0) from int_eq fnd.length 0]
        by_cases h0 : fnd.length = 0
        · rw [decide_eq_true h0]
          have e0 : fnd = [] := List.eq_nil_of_length_eq_zero h0
          refine iteT (q .non H3 (s2.trans s3) ?_)
          subst e0
          rw [run_fail run (by simpa using hlt) hc2]
          rfl
        · rw [decide_eq_false h0]
          obtain ⟨g, d, e0⟩ : ∃ g d, fnd = g ++ [d] := ⟨fnd.dropLast, fnd.getLast (fun z => h0 (by rw [z]; rfl)), (List.dropLast_concat_getLast _).symm⟩
          subst e0
          obtain ⟨m', hm', r'⟩ := run_pop run hlt hc2
          have hdm : d < many := hfl d (List.mem_append_right _ (List.mem_singleton.mpr rfl))
          have hgl : (g ++ [d]).length = g.length + 1 := by rw [List.length_append]; rfl
          refine iteF ⟨_, rfl, .inl ⟨rfl, _, SqL.of hf3⟩, fa, _, vN d, rfl, rfl, hf3, ?_, _, _, rfl, rfl, ?_⟩
          · rw [List.length_map, hgl, List.getElem?_map]
            show ((g ++ [d])[g.length]?).map vN = _
            rw [List.getElem?_append_right (Nat.le_refl _), Nat.sub_self]
            rfl
          · refine ⟨m', hm', g, d + 1, _, rfl, same_mut (s2.trans s3) hfa, ?_, hdm, r', by omega, fun z hz => hfl z (List.mem_append_left _ hz)⟩
            rw [upd_same, List.map_append]
            show some (HO.lst ((g.map vN ++ [vN d]).dropLast)) = _
            rw [List.dropLast_concat]
  · rw [decide_eq_false hlt]
    refine iteF ⟨_, rfl, fa, _, rfl, hf2, fun t ht => ?_⟩
    have s3 := same_new ht (.tup (fnd.map vN))
    refine q (.ref t) _ (s2.trans s3) ?_
    rw [run_end run hlt]
    exact ⟨t, rfl, upd_same⟩

abbrev s_crowd_in : Stmt := top 34
theorem sc_crowd_in : FnScope ["near", "crowds", "place", "most", "crowd", "other"] ["near"] (defScope s_crowd_in) := ⟨rfl, rfl, rfl, by decide +kernel, rfl, by decide +kernel, by decide +kernel⟩
theorem ok_crowd_in (T : Txt K mg) (F : Fun K "crowd_in" "crowd_in" s_crowd_in f fd) : FnOk P w K mg base CX0 (k + 1) f fd ["near"] spCrowd := by
  have nd := sc_crowd_in.nd
  refine F.ok sc_crowd_in (fun vs H Q E h => ?_) (fun cdv A outer s H vs Q E hr h => ?_)
  · obtain ⟨D, near, n, G, rfl, _⟩ := h
    rfl
  obtain ⟨D, near, n, G, rfl, ⟨as, hDs, hR⟩, ok, hn8, q⟩ := h
  refine ⟨_, (pss_cons (ps_set (i := 1) nd rfl (Or.inl rfl) (pe_lst (pa_cons (pe_tup pa_nil) pa_nil)))
      (pss_cons (ps_for PassesOwn.never rfl (pi_range1 (by rfl) T.z_range (pa_cons (pe_callB call_len2 (by rfl) T.z_len (by decide +kernel) (pa_cons (pv 0) pa_nil)) pa_nil)) (pg_name (i := 2) nd rfl (Or.inr rfl)) (pss_one (ps_set (i := 1) nd rfl (Or.inl rfl) (pe_op op_cat (pv 1) (pe_lc (own := [("crowd", 4)]) (g := gName 4) rfl nd (pi_L (pv 1)) (blkOk_by (own := [("crowd", 4)]) (by kernel_rfl)) (fun _ _ _ _ _ => pg_name (i := 4) nd rfl (Or.inl rfl)) (fun _ _ _ _ _ => pts_one (pt_val (pe_callB (cr_all2 rfl) (by rfl) T.z_all (by decide +kernel) (pa_cons (pe_lc (own := [("other", 5)]) (g := gName 5) (tt := tYes) rfl nd (pi_U (pv 4)) (blkOk_by (own := [("other", 5)]) (by kernel_rfl)) (fun _ _ _ _ _ => pg_name (i := 5) nd rfl (Or.inl rfl)) (fun _ _ _ _ _ => pts_nil) (fun _ _ _ _ _ => (pe_cmpR op_inN (pv 5) (pe_ix it_list (pv 0) (pv 2) (fun _ _ => rfl)) (by rfl)))) pa_nil)))) (fun _ _ _ _ _ => (pe_op op_cat2 (pv 4) (pe_tup (pa_cons (pv 2) pa_nil)))))))))
      (pss_cons (ps_set (i := 3) nd rfl (Or.inr rfl) (pe_callB (cr_maxN rfl) (by rfl) T.z_max (by decide +kernel) (pa_cons (pe_lc (own := [("crowd", 4)]) (g := gName 4) (tt := tYes) rfl nd (pi_L (pv 1)) (blkOk_by (own := [("crowd", 4)]) (by kernel_rfl)) (fun _ _ _ _ _ => pg_name (i := 4) nd rfl (Or.inl rfl)) (fun _ _ _ _ _ => pts_nil) (fun _ _ _ _ _ => (pe_callB call_len2 (by rfl) T.z_len (by decide +kernel) (pa_cons (pv 4) pa_nil)))) pa_nil)))
      (pss_one (ps_ret (pe_callB (cr_minT rfl hr.units) (by rfl) T.z_min (by decide +kernel) (pa_cons (pe_lc (own := [("crowd", 4)]) (g := gName 4) rfl nd (pi_L (pv 1)) (blkOk_by (own := [("crowd", 4)]) (by kernel_rfl)) (fun _ _ _ _ _ => pg_name (i := 4) nd rfl (Or.inl rfl)) (fun _ _ _ _ _ => pts_one (pt_cmpR op_eq (pe_callB call_len2 (by rfl) T.z_len (by decide +kernel) (pa_cons (pv 4) pa_nil)) (pv 3) (nomark _))) (fun _ _ _ _ _ => (pv 4))) pa_nil))))))), ?_⟩
  refine ⟨Nat.zero_le _, fun t0 ht0 => ⟨by show 1 ≤ sizeLine; decide, fun c0 hc0 => ?_⟩⟩
  have s1 := same_new ht0 (.tup [])
  have s2 := same_new hc0 (.lst [.ref t0])
  have ht2 : upd (upd H t0 (.tup [])) c0 (.lst [.ref t0]) t0 = some (.tup []) := s2 _ _ upd_same
  have hc2 : upd (upd H t0 (.tup [])) c0 (.lst [.ref t0]) c0 = some (.lst [.ref t0]) := upd_same
  have s12 := s1.trans s2
  generalize upd (upd H t0 (.tup [])) c0 (.lst [.ref t0]) = H2 at s12 ht2 hc2 ⊢
  have eN : (as.map V.ref).length = n := by rw [List.length_map, hR.1, ok.len]
  have p8 : ∀ i, i ≤ 8 → 2 ^ i ≤ 256 := fun i hi => Nat.pow_le_pow_right (by decide) hi
  refine ⟨_, rfl, D, _, rfl, .inl (s12 _ _ hDs), _, rfl, by rw [eN]; omega, by rw [eN]; omega, ?_⟩
  refine for_by (wk_rng (n := (as.map V.ref).length) (S := fun _ => True))
    (fun i σ H3 => ∃ (c : Addr) (cs : List V) (crs : List (List Nat)) (y2 : Option V), σ = [some (.ref D), some (.ref c), y2, none, none, none] ∧ Same H H3 ∧ H3 c = some (.lst cs) ∧ Paired (fun cr v => rNs cr v H3) crs cs ∧ crs ≠ [] ∧ (∀ cr ∈ crs, Crowd G i cr) ∧ crs.length ≤ 2 ^ i)
    (fun _ _ _ _ => trivial) ⟨c0, [.ref t0], [[]], none, rfl, s12, hc2, .cons ⟨t0, rfl, ht2⟩ .nil, (by simp), fun cr h => by rw [List.mem_singleton.mp h]; exact Crowd.nil, Nat.le_refl _⟩ ?_ ?_
  · rintro i x σ H3 hi ⟨c, cs, crs, y2, rfl, s3, hc3, hpr, hne, hcr, hlen⟩
    obtain ⟨i', hi', rfl⟩ := pr_get (nat_pr _) hi
    have hin : i < n := by
      have h1 := (List.getElem?_eq_some_iff.mp hi).1
      rw [List.length_map, List.length_range, eN] at h1
      exact h1
    have ei : i' = i := by
      rw [List.getElem?_range (by rw [eN]; exact hin)] at hi'
      exact (Option.some.inj hi').symm
    subst ei
    have hR3 : Rows as near H3 := ⟨hR.1, fun j a x h1 h2 => s3 _ _ (hR.2 j a x h1 h2)⟩
    obtain ⟨ra, rm, hra, hrm, hrA⟩ := rNear_get (s3 _ _ hDs) hR3 (by rw [ok.len]; exact hin)
    have hp8 := p8 i' (by omega)
    have hp9 := p8 (i' + 1) (by omega)
    have e2p : 2 ^ (i' + 1) = 2 ^ i' + 2 ^ i' := by rw [Nat.pow_succ]; omega
    refine ⟨_, rfl, _, rfl, c, cs, rfl, hc3, fun K' D2 hD2 => ?_⟩
    refine lc_rel (R := fun cr v => rNs cr v H3) (l := crs) hD2 (wk_lst fun H4 s4 => s4 _ _ hc3) hpr (by omega) (fun cr => cr.all fun o => G i' o) (fun cr y H4 => rNs (cr ++ [i']) y H4) (fun _ _ _ _ s r => rNs_ts (TS.of s) r) (fun _ _ _ _ _ h r => rNs_ts (TS.upd h) r) (fun cr u H4 hcm hRc s4 hDl Ky Kn k1 k0 => ?_) (fun H4 ys s4 hys hpy => ?_)
    · obtain ⟨a, rfl, ha⟩ := rNs_ts (TS.of s4) hRc
      refine ⟨rfl, _, rfl, a, _, rfl, ha, fun K2 D3 hD3 => ?_⟩
      have hcl := (hcr cr hcm).len
      refine lc_fun (R := fun n v => v = vN n) (l := cr) hD3 (wk_tup fun H5 s5 => s5 _ _ ha) (nat_pr cr) (by omega) (fun _ => true) (fun o => .bl (decide (o ∈ rm))) (fun o u H5 ho hRo s5 Ky2 Kn2 k2 _ => ?_) (fun H5 s5 hD5 => ?_)
      · subst hRo
        refine ⟨rfl, yesT (iteT ⟨_, rfl, _, rfl, _, rfl, D, _, i', .ref ra, rfl, rfl, s5 _ _ (s4 _ _ (s3 _ _ hDs)), hra, ra, rm, o, rfl, rfl, s5 _ _ (s4 _ _ hrA), k2 _ rfl (Same.refl _)⟩)⟩
      · rw [filter_yes] at hD5
        have e5 : cr.map (fun o => V.bl (decide (o ∈ rm))) = (cr.map fun o => decide (o ∈ rm)).map V.bl := by rw [List.map_map]; rfl
        rw [e5] at hD5
        have e6 : (cr.map fun o => decide (o ∈ rm)).all id = cr.all fun o => G i' o := by
          rw [List.all_map]
          congr 1
          funext o
          show id (decide (o ∈ rm)) = G i' o
          apply Bool.eq_iff_iff.mpr
          show decide (o ∈ rm) = true ↔ _
          rw [decide_eq_true_iff]
          exact ok.mem _ _ hrm o
        refine ⟨D3, _, rfl, hD5, _, rfl, ?_⟩
        rw [e6]
        cases hall : cr.all fun o => G i' o with
        | false => exact iteF (k0 _ hall s5)
        | true =>
          refine iteT ⟨_, rfl, _, rfl, by show 1 ≤ sizeLine; decide, fun t ht => ?_⟩
          have s6 := same_new ht (.tup [vN i'])
          refine ⟨a, t, _, _, rfl, rfl, s6 _ _ (s5 _ _ ha), upd_same, by rw [List.length_map]; exact Nat.le_trans (by show _ + 1 ≤ 100; omega) (by decide), fun p H' s7 hp => ?_⟩
          refine k1 (.ref p) H' hall (s5.trans (s6.trans s7)) ⟨p, rfl, ?_⟩
          rw [hp, List.map_append]
          rfl
    · have hyl := hpy.length
      have hfl := List.length_filter_le (fun cr : List Nat => cr.all fun o => G i' o) crs
      have hcsl := hpr.length
      refine ⟨c, D2, cs, ys, rfl, rfl, s4 _ _ hc3, hys, Nat.le_trans (by omega : _ ≤ 512) (by decide), fun c2 hc2 => ?_⟩
      have s5 := same_new hc2 (.lst (cs ++ ys))
      refine ⟨c2, cs ++ ys, crs ++ (crs.filter fun cr => cr.all fun o => G i' o).map (· ++ [i']), _, rfl, s3.trans (s4.trans s5), upd_same, ?_, ?_, fun cr hcm => ?_, ?_⟩
      · refine pr_app (pr_imp hpr fun _ _ _ r => rNs_ts (TS.of (s4.trans s5)) r) ?_
        have hg2 : ∀ {l : List (List Nat)} {zs : List V}, Paired (fun cr y => rNs (cr ++ [i']) y H4) l zs → Paired (fun cr v => rNs cr v (upd H4 c2 (.lst (cs ++ ys)))) (l.map (· ++ [i'])) zs := by
          intro l zs h
          induction h with
          | nil => exact .nil
          | cons h1 _ ih => exact .cons (rNs_ts (TS.of s5) h1) ih
        exact hg2 hpy
      · intro z
        exact hne (List.append_eq_nil_iff.mp z).1
      · rcases List.mem_append.mp hcm with h1 | h1
        · exact (hcr cr h1).mono (Nat.le_succ _)
        · obtain ⟨cr0, h2, rfl⟩ := List.mem_map.mp h1
          obtain ⟨h3, h4⟩ := List.mem_filter.mp h2
          exact (hcr cr0 h3).snoc fun o ho => List.all_eq_true.mp h4 o ho
      · rw [List.length_append, List.length_map]
        omega
  · rintro σ H3 ⟨c, cs, crs, y2, rfl, s3, hc3, hpr, hne, hcr, hlen⟩
    rw [List.length_map, List.length_range, eN] at hcr hlen
    have hp8 := p8 n hn8
    refine ⟨_, rfl, c, cs, rfl, hc3, fun K' D2 hD2 => ?_⟩
    refine lc_fun (R := fun cr v => rNs cr v H3) (l := crs) hD2 (wk_lst fun H4 s4 => s4 _ _ hc3) hpr (by omega) (fun _ => true) (fun cr => .int (cr.length : Int)) (fun cr u H4 hcm hRc s4 Ky Kn k1 _ => ?_) (fun H4 s4 hD4 => ?_)
    · obtain ⟨a, rfl, ha⟩ := rNs_ts (TS.of s4) hRc
      refine ⟨rfl, yesT (iteT ⟨_, rfl, a, _, rfl, .inr ha, ?_⟩)⟩
      rw [List.length_map]
      exact k1 _ rfl (Same.refl _)
    · rw [filter_yes] at hD4
      have e5 : crs.map (fun cr => V.int (cr.length : Int)) = (crs.map fun cr => (cr.length : Int)).map V.int := by rw [List.map_map]; rfl
      rw [e5] at hD4
      refine ⟨D2, _, rfl, hD4, ?_, fun mx hmx _ => ?_⟩
      · rw [List.length_map]
        exact List.length_pos_iff.mpr hne
      obtain ⟨cr0, hcr0, rfl⟩ := List.mem_map.mp hmx
      refine ⟨_, rfl, c, cs, rfl, s4 _ _ hc3, fun K2 D3 hD3 => ?_⟩
      refine lc_rel (R := fun cr v => rNs cr v H3) (l := crs) hD3 (wk_lst fun H5 s5 => s5 _ _ (s4 _ _ hc3)) hpr (by omega) (fun cr => decide (cr.length = cr0.length)) (fun cr y H5 => rNs cr y H5) (fun _ _ _ _ s r => rNs_ts (TS.of s) r) (fun _ _ _ _ _ h r => rNs_ts (TS.upd h) r) (fun cr u H5 hcm hRc s5 hDl Ky Kn k1 k0 => ?_) (fun H5 ys s5 hys hpy => ?_)
      · obtain ⟨a, rfl, ha⟩ := rNs_ts (TS.of (s4.trans s5)) hRc
        refine ⟨rfl, _, rfl, a, _, rfl, .inr ha, _, rfl, rfl, _, rfl, ?_⟩
        rw [List.length_map, int_eq]
        by_cases hl : cr.length = cr0.length
        · rw [decide_eq_true hl]
          exact iteT ⟨_, rfl, k1 _ _ (decide_eq_true hl) (Same.refl _) ⟨a, rfl, ha⟩⟩
        · rw [decide_eq_false hl]
          exact iteF (k0 _ (decide_eq_false hl) (Same.refl _))
      · refine ⟨D3, ys, cr0.length, rfl, hys, fun z => ?_, fun y hy => ?_, fun y hy => ?_⟩
        · have h1 := hpy.length
          rw [z] at h1
          have h2 : cr0 ∈ crs.filter fun cr => decide (cr.length = cr0.length) := List.mem_filter.mpr ⟨hcr0, decide_eq_true rfl⟩
          rw [List.eq_nil_of_length_eq_zero h1] at h2
          cases h2
        · obtain ⟨cr, h1, p, e1, h2⟩ := pr_mem hpy hy
          refine ⟨p, cr.map fun (n : Nat) => (n : Int), e1, by rw [h2, List.map_map]; rfl, ?_⟩
          rw [List.length_map]
          exact of_decide_eq_true (List.mem_filter.mp h1).2
        · obtain ⟨cr, h1, p, rfl, h2⟩ := pr_mem hpy hy
          exact q p cr H5 (s3.trans (s4.trans s5)) h2 (hcr cr (List.mem_filter.mp h1).1)
end
end K65
end

section
set_option Elab.async false
set_option linter.all false
set_option maxRecDepth 100000
set_option maxHeartbeats 4000000
/-! The program's number of colors and told coloring. -/
namespace K65
open PySem L2
open PyProof.Rows (envOfC)

/-- k is the least number of colors, x the first coloring with so many -/
structure Least (A : Nat → Nat → Bool) (n k : Nat) (x : List Nat) : Prop where
  pos : 1 ≤ k
  low : k ≤ 7
  head : (cols A k n).head? = some x
  least : ∀ j, 1 ≤ j → j < k → cols A j n = []
def spTold : Sp := fun vs H Q _ => ∃ (D : Addr) (near : List (List Nat)) (n : Nat) (A : Nat → Nat → Bool), vs = [.ref D] ∧ rNear near D H ∧ NearOk A n near ∧ n ≤ 7 ∧ (∀ p o, A p o = true → p ≠ o) ∧ (∀ m ∈ near, m.length ≤ 1000) ∧
  ∀ (t a : Addr) (kk : Nat) (x : List Nat) (H' : Hp), Same H H' → H' t = some (.tup [vN kk, .ref a]) → H' a = some (.tup (x.map vN)) → Least A n kk x → Q (.ref t) H'
def spNumC : Sp := fun vs H Q _ => ∃ (e : Ex) (v : V), vs = [v] ∧ rE e v H ∧ ExOk e ∧ e.lets.length ≤ 7 ∧ ∀ (kk : Nat) (x : List Nat) (H' : Hp), Same H H' → Least (adjB e) e.lets.length kk x → Q (vN kk) H'
def spColoring : Sp := fun vs H Q _ => ∃ (e : Ex) (v : V), vs = [v] ∧ rE e v H ∧ ExOk e ∧ e.lets.length ≤ 7 ∧ ∀ (kk : Nat) (x : List Nat) (a : Addr) (H' : Hp), Same H H' → H' a = some (.tup (x.map vN)) → Least (adjB e) e.lets.length kk x → Q (.ref a) H'
section
variable {P : Program} {w : World} {K : PySem.W.Frag} {mg : Str → Option Value} {base : Heap} {k : Nat} {f : Addr} {fd : FuncData}
abbrev s_told_with : Stmt := top 35
theorem sc_told_with : FnScope ["near", "many", "found"] ["near"] (defScope s_told_with) := ⟨rfl, rfl, rfl, by decide +kernel, rfl, by decide +kernel, by decide +kernel⟩
theorem ok_told_with {ps1 ps2 : List Str} (T : Txt K mg) (F : Fun K "told_with" "told_with" s_told_with f fd) (Ccrowd_in : Cd P w K mg base k "crowd_in" ps1 spCrowd) (Cfirst_coloring : Cd P w K mg base k "first_coloring" ps2 spFirst) :
    FnOk P w K mg base CX0 (k + 1) f fd ["near"] spTold := by
  have nd := sc_told_with.nd
  refine F.ok sc_told_with (fun vs H Q E h => ?_) (fun cdv A outer s H vs Q E hr h => ?_)
  · obtain ⟨D, near, n, G, rfl, _⟩ := h
    rfl
  obtain ⟨D, near, n, G, rfl, hN, ok, hn7, irr, hrow, q⟩ := h
  refine ⟨_, (pss_cons (ps_for PassesOwn.never rfl (pi_range2 (by rfl) T.z_range (pa_cons (pe_callB (call_max2 rfl) (by rfl) T.z_max (by decide +kernel) (pa_cons pe_int (pa_cons (pe_callB call_len2 (by rfl) T.z_len (by decide +kernel) (pa_cons (pe_cd Ccrowd_in hr (by rfl) (pa_cons (pv 0) pa_nil)) pa_nil)) pa_nil))) (pa_cons (pe_gc T.MOST_COLORS (by rfl)) pa_nil))) (pg_name (i := 1) nd rfl (Or.inl rfl)) (pss_cons (ps_set (i := 2) nd rfl (Or.inl rfl) (pe_cd Cfirst_coloring hr (by rfl) (pa_cons (pv 0) (pa_cons (pv 1) pa_nil))))
        (pss_one (ps_if (pt_cmpR op_notN (pv 2) pe_non (nomark _)) (pss_one (ps_ret (pe_tup (pa_cons (pv 1) (pa_cons (pv 2) pa_nil))))) pss_nil))))
      (pss_one (ps_ret (pe_tup (pa_cons (pe_gc T.MOST_COLORS (by rfl)) (pa_cons (pe_cd Cfirst_coloring hr (by rfl) (pa_cons (pv 0) (pa_cons (pe_gc T.MOST_COLORS (by rfl)) pa_nil))) pa_nil)))))), ?_⟩
  refine ⟨_, rfl, D, near, n, G, rfl, hN, ok, by omega, fun t cr H1 s1 ht hcr => ?_⟩
  have hcl := hcr.len
  obtain ⟨lo, hlo⟩ : ∃ lo : Nat, lo = max 1 cr.length := ⟨_, rfl⟩
  have elo : (if ((cr.map vN).length : Int) > 1 then ((cr.map vN).length : Int) else 1) = (lo : Int) := by
    rw [List.length_map]
    split <;> omega
  refine ⟨t, _, rfl, .inr ht, _, _, rfl, ?_⟩
  rw [elo]
  refine ⟨_, _, rfl, ⟨by omega, by omega, by decide, by decide⟩, ?_⟩
  have e8 : ((8 : Int) - (lo : Int)).toNat = 8 - lo := by omega
  rw [e8]
  -- below the crowd's size there is no coloring
  have below : ∀ j, 1 ≤ j → j < lo → cols G j n = [] := fun j h1 h2 => by
    cases e : cols G j n with
    | nil => rfl
    | cons x xs =>
      have h3 := hcr.le (k := j) (x := x) (by rw [e]; exact List.mem_cons_self)
      omega
  refine for_by (wk_rngL (lo := lo) (n := 8 - lo) (S := fun _ => True))
    (fun i σ H2 => ∃ (y1 y2 : Option V), σ = [some (.ref D), y1, y2] ∧ Same H H2 ∧ ∀ j, 1 ≤ j → j < lo + i → cols G j n = [])
    (fun _ _ _ _ => trivial) ⟨none, none, rfl, s1, fun j h1 h2 => below j h1 h2⟩ ?_ ?_
  · rintro i x σ H2 hi ⟨y1, y2, rfl, s2, hno⟩
    obtain ⟨j, hj, rfl⟩ := pr_get (nat_pr _) hi
    have hil : i < 8 - lo := by
      have h1 := (List.getElem?_eq_some_iff.mp hi).1
      rw [List.length_map, List.length_range'] at h1
      exact h1
    have ej : j = lo + i := by
      rw [List.getElem?_range' hil] at hj
      have := Option.some.inj hj
      omega
    subst ej
    refine ⟨_, rfl, _, rfl, D, near, n, lo + i, G, rfl, hN.same s2, ok, by omega, by omega, hrow, fun v H3 s3 hv => ?_⟩
    refine ⟨_, rfl, rfl, _, rfl, ?_⟩
    cases e : (cols G (lo + i) n).head? with
    | none =>
      rw [e] at hv
      have hv : v = .non := hv
      rw [hv]
      refine iteF ⟨_, _, rfl, s2.trans s3, fun j h1 h2 => ?_⟩
      by_cases h3 : j < lo + i
      · exact hno j h1 h3
      · have e2 : j = lo + i := by omega
        rw [e2]
        exact List.head?_eq_none_iff.mp e
    | some x =>
      rw [e] at hv
      obtain ⟨a, rfl, ha⟩ := hv
      refine iteT ⟨_, rfl, _, rfl, by show 2 ≤ sizeLine; decide, fun t2 ht2 => ?_⟩
      have s4 := same_new ht2 (.tup [vN (lo + i), .ref a])
      exact q t2 a (lo + i) x _ (s2.trans (s3.trans s4)) upd_same (s4 _ _ ha) ⟨by omega, by omega, e, hno⟩
  · rintro σ H2 ⟨y1, y2, rfl, s2, hno⟩
    rw [List.length_map, List.length_range'] at hno
    exfalso
    have h1 := hno 7 (by decide) (by omega)
    have h2 := id_cols (A := G) (n := n) (k := 7) irr hn7
    rw [h1] at h2
    cases h2

abbrev s_color_number : Stmt := top 36
theorem sc_color_number : FnScope ["expression"] ["expression"] (defScope s_color_number) := ⟨rfl, rfl, rfl, by decide +kernel, rfl, by decide +kernel, by decide +kernel⟩
theorem ok_color_number {ps1 ps2 ps3 : List Str} (T : Txt K mg) (F : Fun K "color_number" "color_number" s_color_number f fd) (Ccheck_expression : Cd P w K mg base k "check_expression" ps1 spCheck) (Ctold_with : Cd P w K mg base k "told_with" ps2 spTold) (Cneighbours_of : Cd P w K mg base k "neighbours_of" ps3 spNear) :
    FnOk P w K mg base CX0 (k + 1) f fd ["expression"] spNumC := by
  have nd := sc_color_number.nd
  refine F.ok sc_color_number (fun vs H Q E h => ?_) (fun cdv A outer s H vs Q E hr h => ?_)
  · obtain ⟨e, v, rfl, _⟩ := h
    rfl
  obtain ⟨e, v, rfl, hv, hx, h7, q⟩ := h
  refine ⟨_, (pss_cons (ps_expr (pe_cd Ccheck_expression hr (by rfl) (pa_cons (pv 0) pa_nil)))
      (pss_one (ps_ret (pe_ix it_tup (pe_cd Ctold_with hr (by rfl) (pa_cons (pe_cd Cneighbours_of hr (by rfl) (pa_cons (pv 0) pa_nil)) pa_nil)) pe_int (fun _ _ => rfl))))), ?_⟩
  refine ⟨_, rfl, e, v, rfl, hv, hx, fun H1 s1 => ⟨_, rfl, e, v, rfl, rE_ts (TS.of s1) _ _ hv, hx, fun D near H2 s2 hN ok hrow => ?_⟩⟩
  refine ⟨D, near, _, adjB e, rfl, hN, ok, h7, fun p o h => adjB_irr h, hrow, fun t a kk x H3 s3 ht ha hL => ?_⟩
  exact ⟨t, _, 0, _, rfl, rfl, ht, rfl, q kk x H3 (s1.trans (s2.trans s3)) hL⟩

abbrev s_told_coloring : Stmt := top 37
theorem sc_told_coloring : FnScope ["expression"] ["expression"] (defScope s_told_coloring) := ⟨rfl, rfl, rfl, by decide +kernel, rfl, by decide +kernel, by decide +kernel⟩
theorem ok_told_coloring {ps1 ps2 ps3 : List Str} (T : Txt K mg) (F : Fun K "told_coloring" "told_coloring" s_told_coloring f fd) (Ccheck_expression : Cd P w K mg base k "check_expression" ps1 spCheck) (Ctold_with : Cd P w K mg base k "told_with" ps2 spTold) (Cneighbours_of : Cd P w K mg base k "neighbours_of" ps3 spNear) :
    FnOk P w K mg base CX0 (k + 1) f fd ["expression"] spColoring := by
  have nd := sc_told_coloring.nd
  refine F.ok sc_told_coloring (fun vs H Q E h => ?_) (fun cdv A outer s H vs Q E hr h => ?_)
  · obtain ⟨e, v, rfl, _⟩ := h
    rfl
  obtain ⟨e, v, rfl, hv, hx, h7, q⟩ := h
  refine ⟨_, (pss_cons (ps_expr (pe_cd Ccheck_expression hr (by rfl) (pa_cons (pv 0) pa_nil)))
      (pss_one (ps_ret (pe_ix it_tup (pe_cd Ctold_with hr (by rfl) (pa_cons (pe_cd Cneighbours_of hr (by rfl) (pa_cons (pv 0) pa_nil)) pa_nil)) pe_int (fun _ _ => rfl))))), ?_⟩
  refine ⟨_, rfl, e, v, rfl, hv, hx, fun H1 s1 => ⟨_, rfl, e, v, rfl, rE_ts (TS.of s1) _ _ hv, hx, fun D near H2 s2 hN ok hrow => ?_⟩⟩
  refine ⟨D, near, _, adjB e, rfl, hN, ok, h7, fun p o h => adjB_irr h, hrow, fun t a kk x H3 s3 ht ha hL => ?_⟩
  exact ⟨t, _, 1, _, rfl, rfl, ht, rfl, q kk x a H3 (s1.trans (s2.trans s3)) ha hL⟩
end
end K65
end

section
set_option Elab.async false
set_option linter.all false
set_option maxRecDepth 100000
set_option maxHeartbeats 4000000
/-! The law's own words, first part: what it reads off an expression; its equality. -/
namespace K65
open PySem L2
open PyProof.Rows (envOfC)

/-- the same data of ints, truth values, lists and tuples -/
def EqD : Nat → V → V → Hp → Prop
  | 0, _, _, _ => False
  | n + 1, x, y, H => (∃ i, x = .int i ∧ y = .int i) ∨ (∃ b, x = .bl b ∧ y = .bl b) ∨
      ∃ (p q : Addr) (xs ys : List V), x = .ref p ∧ y = .ref q ∧ ((H p = some (.tup xs) ∧ H q = some (.tup ys)) ∨ (H p = some (.lst xs) ∧ H q = some (.lst ys))) ∧ Paired (fun a b => EqD n a b H) xs ys ∧ ys.length ≤ 1000
theorem EqD.same : ∀ {n : Nat} {x y : V} {H H' : Hp}, EqD n x y H → Same H H' → EqD n x y H'
  | 0, _, _, _, _, h, _ => h.elim
  | n + 1, x, y, H, H', h, s => by
    rcases h with h | h | ⟨p, q, xs, ys, e1, e2, h, hp, hl⟩
    · exact .inl h
    · exact .inr (.inl h)
    · refine .inr (.inr ⟨p, q, xs, ys, e1, e2, ?_, pr_imp hp fun _ _ _ r => r.same s, hl⟩)
      rcases h with ⟨h1, h2⟩ | ⟨h1, h2⟩
      · exact .inl ⟨s _ _ h1, s _ _ h2⟩
      · exact .inr ⟨s _ _ h1, s _ _ h2⟩
def spEq (n : Nat) : Sp := fun vs H Q _ => ∃ x y : V, vs = [x, y] ∧ EqD n x y H ∧ ∀ H', Same H H' → Q (.bl true) H'
def spIsInt : Sp := fun vs H Q _ => ∃ i : Int, vs = [.int i] ∧ ∀ H', Same H H' → Q (.bl true) H'
def spOnce : Sp := fun vs H Q _ => ∃ (a : Addr) (l : List (Nat × Nat)), vs = [.ref a] ∧ rLP l a H ∧ l.length ≤ 4000000 ∧ ∀ (p : Addr) (m : List (Nat × Nat)) (H' : Hp), Same H H' → rLP m p H' → m.Nodup → (∀ q, q ∈ m ↔ q ∈ l) → Q (.ref p) H'

section
variable {P : Program} {w : World} {K : PySem.W.Frag} {mg : Str → Option Value} {base : Heap} {k : Nat} {f : Addr} {fd : FuncData}
abbrev s__law_inside : Stmt := top 45
theorem sc__law_inside : FnScope ["_law_expression"] ["_law_expression"] (defScope s__law_inside) := ⟨rfl, rfl, rfl, by decide +kernel, rfl, by decide +kernel, by decide +kernel⟩
theorem ok__law_inside (T : Txt K mg) (F : Fun K "_law_inside" "_law_inside" s__law_inside f fd) : FnOk P w K mg base CX0 (k + 1) f fd ["_law_expression"] spParts := by
  have nd := sc__law_inside.nd
  refine F.ok sc__law_inside (fun vs H Q E h => ?_) (fun cdv A outer s H vs Q E hr h => ?_)
  · obtain ⟨e, v, rfl, _⟩ := h
    rfl
  obtain ⟨e, v, rfl, hv, q⟩ := h
  refine ⟨_, (pss_cons (ps_if (pt_val (pe_callB call_isk (by rfl) T.z_isinstance (by decide +kernel) (pa_cons (pv 0) (pa_cons (pe_bltn (v := .ty "str") (by rfl) T.z_str (by decide +kernel) rfl) pa_nil)))) (pss_one (ps_ret (pe_tup pa_nil))) pss_nil)
      (pss_one (ps_ret (pe_ifExp (pt_cmpR op_inT (pe_ix it_tup (pv 0) pe_int (fun _ _ => rfl)) (pe_lst (pa_cons pe_str (pa_cons pe_str pa_nil))) (by rfl)) (pe_tup (pa_cons (pe_ix it_tup (pv 0) pe_int (fun _ _ => rfl)) pa_nil)) (pe_ix it_tup (pv 0) pe_int (fun _ _ => rfl)))))), ?_⟩
  obtain ⟨n, kn, kb⟩ := rE_str hv
  refine ⟨_, rfl, _, _, _, _, rfl, kn, kb, _, rfl, ?_⟩
  cases e with
  | lf o => exact iteT ⟨Nat.zero_le _, fun p hp => q p [] _ (same_new hp _) upd_same rfl⟩
  | sg m e =>
    obtain ⟨p, u, rfl, h2, h3⟩ := hv
    have e0 : inV (.str (sgS m)) ([("maybe" : Str), "many"].map V.str) = true := w_single m
    refine iteF ⟨_, rfl, _, _, 0, _, rfl, rfl, h2, rfl, (by show 2 ≤ sizeLine; decide), fun a ha => ⟨a, ["maybe", "many"], _, rfl, rfl, .inl upd_same, _, rfl, ?_⟩⟩
    rw [e0]
    have s1 := same_new ha (.lst [.str "maybe", .str "many"])
    generalize upd H a (.lst [.str "maybe", .str "many"]) = H1 at s1 ⊢
    refine iteT ⟨_, rfl, _, _, 1, _, rfl, rfl, s1 _ _ h2, rfl, (by show 1 ≤ sizeLine; decide), fun t ht => ?_⟩
    have s2 := same_new ht (.tup [u])
    exact q t [u] _ (s1.trans s2) upd_same ⟨u, [], rfl, rE_ts (TS.of (s1.trans s2)) _ _ h3, rfl⟩
  | ro b es =>
    obtain ⟨p, p2, us, rfl, h2, h3, h4⟩ := hv
    have e0 : inV (.str (roS b)) ([("maybe" : Str), "many"].map V.str) = false := w_row b
    refine iteF ⟨_, rfl, _, _, 0, _, rfl, rfl, h2, rfl, (by show 2 ≤ sizeLine; decide), fun a ha => ⟨a, ["maybe", "many"], _, rfl, rfl, .inl upd_same, _, rfl, ?_⟩⟩
    rw [e0]
    have s1 := same_new ha (.lst [.str "maybe", .str "many"])
    generalize upd H a (.lst [.str "maybe", .str "many"]) = H1 at s1 ⊢
    exact iteF ⟨_, rfl, _, _, 1, _, rfl, rfl, s1 _ _ h2, rfl, q p2 us _ s1 (s1 _ _ h3) (rEs_ts (TS.of s1) _ _ h4)⟩

abbrev s__law_letters : Stmt := top 46
theorem sc__law_letters : FnScope ["_law_expression", "_law_part"] ["_law_expression"] (defScope s__law_letters) := ⟨rfl, rfl, rfl, by decide +kernel, rfl, by decide +kernel, by decide +kernel⟩
theorem ok__law_letters {n : Nat} {psp psl : List Str} (T : Txt K mg) (F : Fun K "_law_letters" "_law_letters" s__law_letters f fd) (C_law_inside : Cd P w K mg base k "_law_inside" psp spParts) (C_law_letters : Cd P w K mg base k "_law_letters" psl (spLets n)) :
    FnOk P w K mg base CX0 (k + 1) f fd ["_law_expression"] (spLets (n + 1)) := by
  have nd := sc__law_letters.nd
  refine F.ok sc__law_letters (fun vs H Q E h => ?_) (fun cdv A outer s H vs Q E hr h => ?_)
  · obtain ⟨e, v, d, o, rfl, _⟩ := h
    rfl
  obtain ⟨e, v, d, o, rfl, en, hv, hg, h8, q⟩ := h
  have en : n = d := Nat.succ.inj en
  subst en
  refine ⟨_, (pss_cons (ps_if (pt_val (pe_callB call_isk (by rfl) T.z_isinstance (by decide +kernel) (pa_cons (pv 0) (pa_cons (pe_bltn (v := .ty "str") (by rfl) T.z_str (by decide +kernel) rfl) pa_nil)))) (pss_one (ps_ret (pv 0))) pss_nil)
      (pss_one (ps_ret (pe_join pe_str (pe_lc (own := [("_law_part", 1)]) (g := gName 1) (tt := tYes) rfl nd (pi_U (pe_cd C_law_inside hr (by rfl) (pa_cons (pv 0) pa_nil))) (blkOk_by (own := [("_law_part", 1)]) (by kernel_rfl)) (fun _ _ _ _ _ => pg_name (i := 1) nd rfl (Or.inl rfl)) (fun _ _ _ _ _ => pts_nil) (fun _ _ _ _ _ => (pe_cd C_law_letters hr (by rfl) (pa_cons (pv 1) pa_nil)))))))), ?_⟩
  obtain ⟨n', kn, kb⟩ := rE_str hv
  refine ⟨_, rfl, _, _, _, _, rfl, kn, kb, _, rfl, ?_⟩
  cases hl : isLf e with
  | true =>
    refine iteT ?_
    cases e with
    | lf o =>
      have hv : v = _ := hv
      subst hv
      exact ⟨_, rfl, q _ (Same.refl H)⟩
    | sg m e => cases hl
    | ro b es => cases hl
  | false =>
    refine iteF ⟨⟨_, rfl⟩, _, rfl, e, v, rfl, hv, fun p us H1 s1 hp hus => ⟨p, us, rfl, hp, fun K' D hD => ?_⟩⟩
    refine lc_fun (R := fun x u => rE x u H1) (l := parts e) hD (wk_tup fun H2 s2 => s2 _ _ hp) (rEs_pr hus) (by have := few_parts hg; omega) (fun _ => true) (fun x => .str (sOf x.lets)) (fun x u H2 hx hR s2 Ky Kn k1 _ => ?_) (fun H2 s2 hD2 => ?_)
    · obtain ⟨d', o', e1, g1⟩ := good_parts hg x hx
      exact ⟨rfl, yesT (iteT ⟨_, rfl, x, u, d', o', rfl, e1, rE_ts (TS.of s2) _ _ hR, g1, Nat.le_trans (parts_len hx) h8, fun H3 s3 => k1 H3 rfl s3⟩)⟩
    · rw [filter_yes] at hD2
      have e1 : (parts e).map (fun x => V.str (sOf x.lets)) = (((parts e).map Ex.lets).map sOf).map V.str := by
        rw [List.map_map, List.map_map]; rfl
      rw [e1] at hD2
      refine ⟨_, D, _, rfl, rfl, .inl (SqL.of hD2), ?_, ?_⟩
      · rw [sum_len, ← lets_parts e hl]
        have e0 : ("" : Str).length = 0 := by decide +kernel
        rw [e0, Nat.mul_zero]
        omega
      · rw [join_sOf, ← lets_parts e hl]
        exact q _ (s1.trans s2)

abbrev s__law_count : Stmt := top 50
theorem sc__law_count : FnScope ["_law_expression", "_law_part"] ["_law_expression"] (defScope s__law_count) := ⟨rfl, rfl, rfl, by decide +kernel, rfl, by decide +kernel, by decide +kernel⟩
theorem ok__law_count {n : Nat} {psp psl : List Str} (T : Txt K mg) (F : Fun K "_law_count" "_law_count" s__law_count f fd) (C_law_inside : Cd P w K mg base k "_law_inside" psp spParts) (C_law_count : Cd P w K mg base k "_law_count" psl (spCnt n)) :
    FnOk P w K mg base CX0 (k + 1) f fd ["_law_expression"] (spCnt (n + 1)) := by
  have nd := sc__law_count.nd
  refine F.ok sc__law_count (fun vs H Q E h => ?_) (fun cdv A outer s H vs Q E hr h => ?_)
  · obtain ⟨e, v, d, o, rfl, _⟩ := h
    rfl
  obtain ⟨e, v, d, o, rfl, en, hv, hg, q⟩ := h
  have en : n = d := Nat.succ.inj en
  subst en
  refine ⟨_, (pss_one (ps_ret (pe_op op_add pe_int (pe_callB (cr_sum2 rfl) (by rfl) T.z_sum (by decide +kernel) (pa_cons (pe_lc (own := [("_law_part", 1)]) (g := gName 1) (tt := tYes) rfl nd (pi_U (pe_cd C_law_inside hr (by rfl) (pa_cons (pv 0) pa_nil))) (blkOk_by (own := [("_law_part", 1)]) (by kernel_rfl)) (fun _ _ _ _ _ => pg_name (i := 1) nd rfl (Or.inl rfl)) (fun _ _ _ _ _ => pts_nil) (fun _ _ _ _ _ => (pe_cd C_law_count hr (by rfl) (pa_cons (pv 1) pa_nil)))) pa_nil))))), ?_⟩
  refine ⟨_, rfl, e, v, rfl, hv, fun p us H1 s1 hp hus => ⟨p, us, rfl, hp, fun K' D hD => ?_⟩⟩
  refine lc_fun (R := fun x u => rE x u H1) (l := parts e) hD (wk_tup fun H2 s2 => s2 _ _ hp) (rEs_pr hus) (by have := few_parts hg; omega) (fun _ => true) (fun x => .int (x.cnt : Int)) (fun x u H2 hx hR s2 Ky Kn k1 _ => ?_) (fun H2 s2 hD2 => ?_)
  · obtain ⟨d', o', e1, g1⟩ := good_parts hg x hx
    exact ⟨rfl, yesT (iteT ⟨_, rfl, x, u, d', o', rfl, e1, rE_ts (TS.of s2) _ _ hR, g1, fun H3 s3 => k1 H3 rfl s3⟩)⟩
  · rw [filter_yes] at hD2
    have e1 : (parts e).map (fun x => V.int (x.cnt : Int)) = (((parts e).map Ex.cnt).map fun (n : Nat) => (n : Int)).map V.int := by
      rw [List.map_map, List.map_map]; rfl
    rw [e1] at hD2
    refine ⟨D, _, rfl, hD2, _, _, rfl, rfl, ?_⟩
    have e2 : (1 : Int) + (((parts e).map Ex.cnt).map fun (n : Nat) => (n : Int)).sum = (e.cnt : Int) := by
      rw [sum_cast, cnt_parts e, Int.natCast_add]; rfl
    show Q (V.int (1 + (((parts e).map Ex.cnt).map fun (n : Nat) => (n : Int)).sum)) H2
    rw [e2]
    exact q _ (s1.trans s2)

abbrev s__law_is_integer : Stmt := top 41
theorem sc__law_is_integer : FnScope ["_law_actual"] ["_law_actual"] (defScope s__law_is_integer) := ⟨rfl, rfl, rfl, by decide +kernel, rfl, by decide +kernel, by decide +kernel⟩
theorem ok__law_is_integer (T : Txt K mg) (F : Fun K "_law_is_integer" "_law_is_integer" s__law_is_integer f fd) : FnOk P w K mg base CX0 (k + 1) f fd ["_law_actual"] spIsInt := by
  have nd := sc__law_is_integer.nd
  refine F.ok sc__law_is_integer (fun vs H Q E h => ?_) (fun cdv A outer s H vs Q E hr h => ?_)
  · obtain ⟨i, rfl, _⟩ := h
    rfl
  obtain ⟨i, rfl, q⟩ := h
  refine ⟨_, (pss_one (ps_ret (pe_and (pe_callB call_isk (by rfl) T.z_isinstance (by decide +kernel) (pa_cons (pv 0) (pa_cons (pe_bltn (v := .ty "int") (by rfl) T.z_int (by decide +kernel) rfl) pa_nil))) (pe_one (pe_not (pe_callB call_isk (by rfl) T.z_isinstance (by decide +kernel) (pa_cons (pv 0) (pa_cons (pe_bltn (v := .ty "bool") (by rfl) T.z_bool (by decide +kernel) rfl) pa_nil)))))))), ?_⟩
  exact ⟨_, rfl, _, _, _, _, rfl, .int i, k_ii, _, rfl, iteT ⟨_, rfl, _, _, _, _, rfl, .int i, k_ib, _, rfl, q _ (Same.refl H)⟩⟩

abbrev s__law_equal : Stmt := top 42
theorem sc__law_equal : FnScope ["_law_actual", "_law_due", "_law_at"] ["_law_actual", "_law_due"] (defScope s__law_equal) := ⟨rfl, rfl, rfl, by decide +kernel, rfl, by decide +kernel, by decide +kernel⟩
theorem ok__law_equal {n : Nat} {ps1 ps2 : List Str} (T : Txt K mg) (F : Fun K "_law_equal" "_law_equal" s__law_equal f fd) (C_law_is_integer : Cd P w K mg base k "_law_is_integer" ps1 spIsInt) (C_law_equal : Cd P w K mg base k "_law_equal" ps2 (spEq n)) :
    FnOk P w K mg base CX0 (k + 1) f fd ["_law_actual", "_law_due"] (spEq (n + 1)) := by
  have nd := sc__law_equal.nd
  refine F.ok sc__law_equal (fun vs H Q E h => ?_) (fun cdv A outer s H vs Q E hr h => ?_)
  · obtain ⟨x, y, rfl, _⟩ := h
    rfl
  obtain ⟨x, y, rfl, hE, q⟩ := h
  refine ⟨_, (pss_cons (ps_if (pt_cmpR op_isN (pv 1) pe_non (nomark _)) (pss_one (ps_ret (pe_cmpR op_isN (pv 0) pe_non (nomark _)))) pss_nil)
      (pss_cons (ps_if (pt_val (pe_callB call_isk (by rfl) T.z_isinstance (by decide +kernel) (pa_cons (pv 1) (pa_cons (pe_bltn (v := .ty "bool") (by rfl) T.z_bool (by decide +kernel) rfl) pa_nil)))) (pss_one (ps_ret (pe_and (pe_callB call_isk (by rfl) T.z_isinstance (by decide +kernel) (pa_cons (pv 0) (pa_cons (pe_bltn (v := .ty "bool") (by rfl) T.z_bool (by decide +kernel) rfl) pa_nil))) (pe_one (pe_cmpR op_eq (pv 0) (pv 1) (nomark _)))))) pss_nil)
      (pss_cons (ps_if (pt_val (pe_callB call_isk (by rfl) T.z_isinstance (by decide +kernel) (pa_cons (pv 1) (pa_cons (pe_bltn (v := .ty "int") (by rfl) T.z_int (by decide +kernel) rfl) pa_nil)))) (pss_one (ps_ret (pe_and (pe_cd C_law_is_integer hr (by rfl) (pa_cons (pv 0) pa_nil)) (pe_one (pe_cmpR op_eq (pv 0) (pv 1) (nomark _)))))) pss_nil)
      (pss_cons (ps_if (pt_val (pe_callB call_isk (by rfl) T.z_isinstance (by decide +kernel) (pa_cons (pv 1) (pa_cons (pe_bltn (v := .ty "str") (by rfl) T.z_str (by decide +kernel) rfl) pa_nil)))) (pss_one (ps_ret (pe_and (pe_callB call_isk (by rfl) T.z_isinstance (by decide +kernel) (pa_cons (pv 0) (pa_cons (pe_bltn (v := .ty "str") (by rfl) T.z_str (by decide +kernel) rfl) pa_nil))) (pe_one (pe_cmpR op_eq (pv 0) (pv 1) (nomark _)))))) pss_nil)
      (pss_cons (ps_if (PW.pt (pw_and (pt_val (pe_callB call_isk (by rfl) T.z_isinstance (by decide +kernel) (pa_cons (pv 1) (pa_cons (pe_bltn (v := .ty "tuple") (by rfl) T.z_tuple (by decide +kernel) rfl) pa_nil)))) (pw_and1 (pt_not (pt_val (pe_callB call_isk (by rfl) T.z_isinstance (by decide +kernel) (pa_cons (pv 0) (pa_cons (pe_bltn (v := .ty "tuple") (by rfl) T.z_tuple (by decide +kernel) rfl) pa_nil)))))))) (pss_one (ps_ret pe_bl)) pss_nil)
      (pss_cons (ps_if (PW.pt (pw_and (pt_val (pe_callB call_isk (by rfl) T.z_isinstance (by decide +kernel) (pa_cons (pv 1) (pa_cons (pe_bltn (v := .ty "list") (by rfl) T.z_list (by decide +kernel) rfl) pa_nil)))) (pw_and1 (pt_not (pt_val (pe_callB call_isk (by rfl) T.z_isinstance (by decide +kernel) (pa_cons (pv 0) (pa_cons (pe_bltn (v := .ty "list") (by rfl) T.z_list (by decide +kernel) rfl) pa_nil)))))))) (pss_one (ps_ret pe_bl)) pss_nil)
      (pss_cons (ps_if (pt_cmpR op_ne (pe_callB call_len2 (by rfl) T.z_len (by decide +kernel) (pa_cons (pv 0) pa_nil)) (pe_callB call_len2 (by rfl) T.z_len (by decide +kernel) (pa_cons (pv 1) pa_nil)) (nomark _)) (pss_one (ps_ret pe_bl)) pss_nil)
      (pss_one (ps_ret (pe_callB (cr_all2 rfl) (by rfl) T.z_all (by decide +kernel) (pa_cons (pe_lc (own := [("_law_at", 2)]) (g := gName 2) (tt := tYes) rfl nd (pi_range1 (by rfl) T.z_range (pa_cons (pe_callB call_len2 (by rfl) T.z_len (by decide +kernel) (pa_cons (pv 1) pa_nil)) pa_nil)) (blkOk_by (own := [("_law_at", 2)]) (by kernel_rfl)) (fun _ _ _ _ _ => pg_name (i := 2) nd rfl (Or.inl rfl)) (fun _ _ _ _ _ => pts_nil) (fun _ _ _ _ _ => (pe_cd C_law_equal hr (by rfl) (pa_cons (pe_ix it_any (pv 0) (pv 2) (fun _ _ => rfl)) (pa_cons (pe_ix it_any (pv 1) (pv 2) (fun _ _ => rfl)) pa_nil))))) pa_nil))))))))))), ?_⟩
  rcases hE with ⟨i, rfl, rfl⟩ | ⟨b, rfl, rfl⟩ | ⟨p, p2, xs, ys, rfl, rfl, hpq, hpr, hlen⟩
  · refine ⟨_, rfl, rfl, _, rfl, iteF ⟨_, rfl, _, _, _, _, rfl, .int i, k_ib, _, rfl, iteF ⟨_, rfl, _, _, _, _, rfl, .int i, k_ii, _, rfl, iteT ⟨_, rfl, i, rfl, fun H1 s1 => ⟨_, rfl, iteT ⟨_, rfl, _, rfl, rfl, ?_⟩⟩⟩⟩⟩⟩
    show Q (.bl (decide (V.int i = V.int i))) H1
    rw [decide_eq_true rfl]
    exact q _ s1
  · refine ⟨_, rfl, rfl, _, rfl, iteF ⟨_, rfl, _, _, _, _, rfl, .bl b, k_bb, _, rfl, iteT ⟨_, rfl, _, _, _, _, rfl, .bl b, k_bb, _, rfl, iteT ⟨_, rfl, _, rfl, rfl, ?_⟩⟩⟩⟩
    show Q (.bl (decide (V.bl b = V.bl b))) H
    rw [decide_eq_true rfl]
    exact q _ (Same.refl H)
  · have hxy := hpr.length
    have last : ∀ (H0 : Hp), Same H H0 → (Sq H0 p xs ∧ Sq H0 p2 ys) := fun H0 s0 => by
      rcases hpq with ⟨h1, h2⟩ | ⟨h1, h2⟩
      · exact ⟨.inr (s0 _ _ h1), .inr (s0 _ _ h2)⟩
      · exact ⟨.inl (s0 _ _ h1), .inl (s0 _ _ h2)⟩
    have ix : ∀ (H0 : Hp), Same H H0 → ∀ (i : Nat) (u : V) (Kt : VK), xs[i]? = some u → Kt u H0 → rItA (.ref p) (.int (i : Int)) H0 Kt := fun H0 s0 i u Kt hu hk => by
      rcases hpq with ⟨h1, h2⟩ | ⟨h1, h2⟩
      · exact .inl ⟨p, xs, i, u, rfl, rfl, s0 _ _ h1, hu, hk⟩
      · exact .inr ⟨p, xs, i, u, rfl, rfl, s0 _ _ h1, hu, hk⟩
    have iy : ∀ (H0 : Hp), Same H H0 → ∀ (i : Nat) (u : V) (Kt : VK), ys[i]? = some u → Kt u H0 → rItA (.ref p2) (.int (i : Int)) H0 Kt := fun H0 s0 i u Kt hu hk => by
      rcases hpq with ⟨h1, h2⟩ | ⟨h1, h2⟩
      · exact .inl ⟨p2, ys, i, u, rfl, rfl, s0 _ _ h2, hu, hk⟩
      · exact .inr ⟨p2, ys, i, u, rfl, rfl, s0 _ _ h2, hu, hk⟩
    obtain ⟨q1, q2⟩ := last H (Same.refl H)
    have e1 : (!decide (V.int (xs.length : Int) = V.int (ys.length : Int))) = false := by rw [decide_eq_true (by rw [hxy])]; rfl
    -- the kinds: not None, not a bool, not an int, not a text
    have ky : ∃ nm, Knd H (.ref p2) nm ∧ Knd H (.ref p) nm ∧ (nm = "tuple" ∨ nm = "list") := by
      rcases hpq with ⟨h1, h2⟩ | ⟨h1, h2⟩
      · exact ⟨_, .tup h2, .tup h1, .inl rfl⟩
      · exact ⟨_, .lst h2, .lst h1, .inr rfl⟩
    obtain ⟨nm, k2, k1, hnm⟩ := ky
    have kb : kitB nm "bool" = some false := by rcases hnm with rfl | rfl; exact k_ub; exact k_lb
    have ki : kitB nm "int" = some false := by rcases hnm with rfl | rfl; exact k_ui; exact k_li
    have ks : kitB nm "str" = some false := by rcases hnm with rfl | rfl; exact k_us; exact k_ls
    have ku : ∃ c, kitB nm "tuple" = some c := by rcases hnm with rfl | rfl; exact ⟨_, k_uu⟩; exact ⟨_, k_lu⟩
    have kl : ∃ c, kitB nm "list" = some c := by rcases hnm with rfl | rfl; exact ⟨_, k_ul⟩; exact ⟨_, k_ll⟩
    obtain ⟨cu, ku⟩ := ku
    obtain ⟨cl, kl⟩ := kl
    refine ⟨_, rfl, rfl, _, rfl, iteF ⟨_, rfl, _, _, _, _, rfl, k2, kb, _, rfl, iteF ⟨_, rfl, _, _, _, _, rfl, k2, ki, _, rfl, iteF ⟨_, rfl, _, _, _, _, rfl, k2, ks, _, rfl, iteF ?_⟩⟩⟩⟩
    refine ⟨_, rfl, _, _, _, _, rfl, k2, ku, _, rfl, ?_⟩
    cases cu with
    | true =>
      refine iteT ⟨_, rfl, _, _, _, _, rfl, k1, ku, _, rfl, iteF ⟨_, rfl, _, _, _, _, rfl, k2, kl, _, rfl, ?_⟩⟩
      have ecl : cl = false := by
        rcases hnm with rfl | rfl
        · exact Option.some.inj (kl.symm.trans k_ul)
        · exact absurd (ku.symm.trans k_lu) (by decide)
      subst ecl
      refine iteF (iteF ?_)
      refine ⟨_, rfl, p, xs, rfl, q1, _, rfl, p2, ys, rfl, q2, rfl, _, rfl, ?_⟩
      rw [e1]
      refine iteF ⟨_, rfl, p2, ys, rfl, q2, _, rfl, by omega, by omega, fun D hD => ?_⟩
      refine lc_fun (R := fun n v => v = vN n) (l := List.range ys.length) hD (wk_rng (n := ys.length)) (nat_pr _) (by rw [List.length_range]; omega) (fun _ => true) (fun _ => .bl true) (fun i u H5 hi hRi s5 Ky Kn kk _ => ?_) (fun H5 s5 hD5 => ?_)
      · subst hRi
        have hi := List.mem_range.mp hi
        have hy : ys[i]? = some ys[i] := List.getElem?_eq_getElem hi
        obtain ⟨x, hx, hxy'⟩ := pr_get hpr hy
        refine ⟨rfl, yesT (iteT ⟨_, rfl, _, rfl, ix H5 s5 i x _ hx ⟨_, rfl, _, rfl, iy H5 s5 i _ _ hy ⟨x, _, rfl, hxy'.same s5, fun H6 s6 => kk _ rfl s6⟩⟩⟩)⟩
      · rw [filter_yes] at hD5
        have e5 : (List.range ys.length).map (fun _ => V.bl true) = ((List.range ys.length).map fun _ => true).map V.bl := by rw [List.map_map]; rfl
        rw [e5] at hD5
        have e6 : ((List.range ys.length).map fun _ => true).all id = true := by rw [List.all_map]; exact List.all_eq_true.mpr fun _ _ => rfl
        refine ⟨D, _, rfl, hD5, ?_⟩
        rw [e6]
        exact q _ s5
    | false =>
      have en : nm = "list" := by
        rcases hnm with rfl | rfl
        · exact absurd (ku.symm.trans k_uu) (by decide)
        · rfl
      subst en
      have ecl : cl = true := Option.some.inj (kl.symm.trans k_ll)
      subst ecl
      refine iteF (iteF ⟨_, rfl, _, _, _, _, rfl, k2, kl, _, rfl, iteT ⟨_, rfl, _, _, _, _, rfl, k1, kl, _, rfl, iteF ?_⟩⟩)
      refine ⟨_, rfl, p, xs, rfl, q1, _, rfl, p2, ys, rfl, q2, rfl, _, rfl, ?_⟩
      rw [e1]
      refine iteF ⟨_, rfl, p2, ys, rfl, q2, _, rfl, by omega, by omega, fun D hD => ?_⟩
      refine lc_fun (R := fun n v => v = vN n) (l := List.range ys.length) hD (wk_rng (n := ys.length)) (nat_pr _) (by rw [List.length_range]; omega) (fun _ => true) (fun _ => .bl true) (fun i u H5 hi hRi s5 Ky Kn kk _ => ?_) (fun H5 s5 hD5 => ?_)
      · subst hRi
        have hi := List.mem_range.mp hi
        have hy : ys[i]? = some ys[i] := List.getElem?_eq_getElem hi
        obtain ⟨x, hx, hxy'⟩ := pr_get hpr hy
        refine ⟨rfl, yesT (iteT ⟨_, rfl, _, rfl, ix H5 s5 i x _ hx ⟨_, rfl, _, rfl, iy H5 s5 i _ _ hy ⟨x, _, rfl, hxy'.same s5, fun H6 s6 => kk _ rfl s6⟩⟩⟩)⟩
      · rw [filter_yes] at hD5
        have e5 : (List.range ys.length).map (fun _ => V.bl true) = ((List.range ys.length).map fun _ => true).map V.bl := by rw [List.map_map]; rfl
        rw [e5] at hD5
        have e6 : ((List.range ys.length).map fun _ => true).all id = true := by rw [List.all_map]; exact List.all_eq_true.mpr fun _ _ => rfl
        refine ⟨D, _, rfl, hD5, ?_⟩
        rw [e6]
        exact q _ s5

abbrev s__law_once : Stmt := top 47
theorem sc__law_once : FnScope ["_law_rows", "_law_seen", "_law_row"] ["_law_rows"] (defScope s__law_once) := ⟨rfl, rfl, rfl, by decide +kernel, rfl, by decide +kernel, by decide +kernel⟩
theorem ok__law_once (T : Txt K mg) (F : Fun K "_law_once" "_law_once" s__law_once f fd) : FnOk P w K mg base CX0 (k + 1) f fd ["_law_rows"] spOnce := by
  have nd := sc__law_once.nd
  refine F.ok sc__law_once (fun vs H Q E h => ?_) (fun cdv A outer s H vs Q E hr h => ?_)
  · obtain ⟨a, l, rfl, _⟩ := h
    rfl
  obtain ⟨a, l, rfl, ⟨qs, hq1, hq2⟩, hlen, q⟩ := h
  refine ⟨_, (pss_cons (ps_set (i := 1) nd rfl (Or.inl rfl) pe_dnewT)
      (pss_cons (ps_for PassesOwn.never rfl (pi_L (pv 0)) (pg_name (i := 2) nd rfl (Or.inl rfl)) (pss_one (ps_dput (hu_of hr) (pv 1) (pv 2) pe_bl rfl)))
      (pss_one (ps_ret (pe_callTy (call_list_dT rfl) (by rfl) T.z_list (by decide +kernel) (pa_cons (pv 1) pa_nil)))))), ?_⟩
  intro d hd
  have s1 := same_new hd (.dT [])
  refine ⟨_, rfl, a, qs, rfl, s1 _ _ hq1, fun K' => ?_⟩
  refine for_by (wk_lst fun H4 (s4 : Same H H4) => s4 _ _ hq1)
    (fun i σ H4 => ∃ y2 : Option V, σ = [some (.ref a), some (.ref d), y2] ∧ Same H H4 ∧ H4 d = some (.dT (((ded (l.take i)).map key2).map keyT)))
    (fun i σ H4 ⟨_, _, h, _⟩ => h) ⟨none, rfl, s1, upd_same⟩ ?_ ?_
  · rintro i x σ H4 hi ⟨y2, rfl, s4, h4⟩
    obtain ⟨z, hz, hR⟩ := pr_get hq2 hi
    obtain ⟨b, rfl, hb⟩ := rPr_ts (TS.of s4) hR
    have hsz : (((ded (l.take i)).map key2).map keyT).length < sizeLine := by
      rw [List.length_map, List.length_map]
      have h3 := ded_len (l.take i)
      rw [List.length_take] at h3
      exact Nat.lt_of_le_of_lt (by omega : _ ≤ 4000000) (by decide)
    refine ⟨_, rfl, _, rfl, d, _, rfl, DPut.t (k := key2 z) h4 hb hsz, _, rfl, same_mut s4 hd, ?_⟩
    rw [upd_same, put_keys, addK_map key2_inj, ← ded_snoc, ← take_snoc hz]
  · rintro σ H4 ⟨y2, rfl, s4, h4⟩
    rw [← hq2.length, List.take_length] at h4
    refine ⟨_, rfl, d, _, rfl, Rd.of h4, fun p bs hp hk => ?_⟩
    have hb := keys_pr (m := ded l) (show Paired (fun (p : List Key × V) (b : Addr) => H4 b = some (.tup (p.1.map kV))) _ _ from hk)
    have s5 := same_new hp (.lst (bs.map V.ref))
    exact q p (ded l) _ (s4.trans s5) ⟨_, upd_same, pr_refs s5 hb⟩ (ded_nodup l) fun z => ded_mem
end
end K65
end

section
set_option Elab.async false
set_option linter.all false
set_option maxRecDepth 100000
set_option maxHeartbeats 4000000
/-! The law's gathering of places. -/
namespace K65
open PySem L2
open PyProof.Rows (envOfC)

structure LAt (g : L) (t f l p : Addr) (H : Hp) : Prop where
  t : H t = some (.lst [vN g.n, .bl g.e, .ref f, .ref l, .ref p])
  f : rLN g.f f H
  l : rLN g.l l H
  p : rLP g.p p H
def spLook (n : Nat) : Sp := fun vs H Q _ => ∃ (e : Ex) (v : V) (d st : Nat) (o : Option Bool), vs = [v, vN st] ∧ n = d + 1 ∧ rE e v H ∧ Good d o e ∧ e.lets.length ≤ 8 ∧ d ≤ 6 ∧
  ∀ (t f l p : Addr) (H' : Hp), Same H H' → LAt (look e st) t f l p H' → Q (.ref t) H'
theorem look_few {d : Nat} {o : Option Bool} {e : Ex} (h : Good d o e) (h8 : e.lets.length ≤ 8) (hd : d ≤ 6) (s : Nat) :
    (look e s).n = e.lets.length ∧ (look e s).e = e.hasE ∧ (look e s).f.length ≤ e.lets.length ∧ (look e s).l.length ≤ e.lets.length ∧ (look e s).p.length ≤ 448 := by
  obtain ⟨h1, h2, h3⟩ := look_gath e s
  have w := gath_within d o e h s
  refine ⟨h1, h2, ?_, ?_, ?_⟩
  · rw [h3.f]; have := w.fl; omega
  · rw [h3.ll]; have := w.ll; omega
  · rw [h3.pl]
    exact Nat.le_trans w.pl (Nat.mul_le_mul (Nat.mul_le_mul h8 h8) (by omega : d + 1 ≤ 7))
theorem lookL_n (b : Bool) : ∀ (es : List Ex) (s : Nat) (g : L), (lookL b es s g).n = g.n + (letsL es).length
  | [], _, _ => rfl
  | e :: r, s, g => by
    rw [lookL, lookL_n b r s, letsL, List.length_append]
    have h : (lstep b g (look e (s + g.n))).n = g.n + (look e (s + g.n)).n := by unfold lstep; cases b <;> rfl
    rw [h, (look_gath e _).1]
    omega
theorem lookL_p (b : Bool) : ∀ (es : List Ex) (s : Nat) (g : L), g.p.length ≤ (lookL b es s g).p.length
  | [], _, _ => Nat.le_refl _
  | e :: r, s, g => by
    refine Nat.le_trans ?_ (lookL_p b r s _)
    unfold lstep
    cases b
    · show g.p.length ≤ (g.p ++ _ ++ _).length
      rw [List.length_append, List.length_append]; omega
    · show g.p.length ≤ (g.p ++ _).length
      rw [List.length_append]; omega
theorem or_var {c d : Bool} {i : Nat} {σ : St} {H : Hp} {Q : VK} (h : σ[i]? = some (some (.bl d))) (k : Q (.bl (c || d)) H) : if c = true then Q (.bl true) H else tVar i σ H Q := by
  cases c with
  | true => exact iteT k
  | false => exact iteF ⟨_, h, k⟩
theorem and_var {c d : Bool} {i : Nat} {σ : St} {H : Hp} {Q : VK} (h : σ[i]? = some (some (.bl d))) (k : Q (.bl (c && d)) H) : if c = true then tVar i σ H Q else Q (.bl false) H := by
  cases c with
  | true => exact iteT ⟨_, h, k⟩
  | false => exact iteF k
/-- x + y if c else z, lists -/
theorem cat_if {c : Bool} {i j m : Nat} {σ : St} {H : Hp} {Q : VK} {a b z : Addr} {xs ys zs : List V} (hi : σ[i]? = some (some (.ref a))) (hj : σ[j]? = some (some (.ref b))) (hm : σ[m]? = some (some (.ref z))) (ha : H a = some (.lst xs)) (hb : H b = some (.lst ys)) (hz : H z = some (.lst zs))
    (hl : xs.length + ys.length ≤ sizeLine) (k : ∀ r H', Same H H' → H' r = some (.lst (if c = true then xs ++ ys else zs)) → Q (.ref r) H') : if c = true then tOp rCat (tVar i) (tVar j) σ H Q else tVar m σ H Q := by
  cases c with
  | true => exact iteT ⟨_, hi, _, hj, a, b, xs, ys, rfl, rfl, ha, hb, hl, fun r hr => k r _ (same_new hr _) upd_same⟩
  | false => exact iteF ⟨_, hm, k z H (Same.refl H) hz⟩

section
variable {P : Program} {w : World} {K : PySem.W.Frag} {mg : Str → Option Value} {base : Heap} {k : Nat} {f : Addr} {fd : FuncData}
abbrev s__law_looks : Stmt := top 48
theorem sc__law_looks : FnScope ["_law_expression", "_law_start", "_law_here", "_law_many", "_law_empty", "_law_first", "_law_last", "_law_pairs", "_law_more", "_law_one", "_law_part", "_law_size", "_law_void", "_law_head", "_law_tail", "_law_inner", "_law_other"] ["_law_expression", "_law_start"] (defScope s__law_looks) := ⟨rfl, rfl, rfl, by decide +kernel, rfl, by decide +kernel, by decide +kernel⟩
theorem ok__law_looks {n : Nat} {ps1 : List Str} (hn : n ≤ 7) (T : Txt K mg) (F : Fun K "_law_looks" "_law_looks" s__law_looks f fd) (C_law_looks : Cd P w K mg base k "_law_looks" ps1 (spLook n)) : FnOk P w K mg base CX0 (k + 1) f fd ["_law_expression", "_law_start"] (spLook (n + 1)) := by
  have nd := sc__law_looks.nd
  refine F.ok sc__law_looks (fun vs H Q E h => ?_) (fun cdv A outer s H vs Q E hr h => ?_)
  · obtain ⟨e, v, d, st, o, rfl, _⟩ := h
    rfl
  obtain ⟨e, v, d, st, o, rfl, en, hv, hg, h8, hd6, q⟩ := h
  have en : n = d := Nat.succ.inj en
  subst en
  refine ⟨_, (pss_cons (ps_if (pt_val (pe_callB call_isk (by rfl) T.z_isinstance (by decide +kernel) (pa_cons (pv 0) (pa_cons (pe_bltn (v := .ty "str") (by rfl) T.z_str (by decide +kernel) rfl) pa_nil)))) (pss_cons (ps_set (i := 2) nd rfl (Or.inl rfl) (pe_op op_rep (pe_lst (pa_cons (pv 1) pa_nil)) (pe_callB call_len_str (by rfl) T.z_len (by decide +kernel) (pa_cons (pv 0) pa_nil))))
        (pss_one (ps_ret (pe_lst (pa_cons (pe_callB call_len_str (by rfl) T.z_len (by decide +kernel) (pa_cons (pv 0) pa_nil)) (pa_cons (pe_cmpR op_eq (pv 0) pe_str (nomark _)) (pa_cons (pv 2) (pa_cons (pv 2) (pa_cons (pe_lst pa_nil) pa_nil))))))))) pss_nil)
      (pss_cons (ps_if (pt_cmpR op_inT (pe_ix it_tup (pv 0) pe_int (fun _ _ => rfl)) (pe_lst (pa_cons pe_str (pa_cons pe_str pa_nil))) (by rfl)) (pss_cons (ps_asg (pe_cd C_law_looks hr (by rfl) (pa_cons (pe_ix it_tup (pv 0) pe_int (fun _ _ => rfl)) (pa_cons (pv 1) pa_nil))) (pg_unl (n := 5) rfl (pgs_cons (pg_name (i := 3) nd rfl (Or.inl rfl)) (pgs_cons (pg_name (i := 4) nd rfl (Or.inl rfl)) (pgs_cons (pg_name (i := 5) nd rfl (Or.inl rfl)) (pgs_cons (pg_name (i := 6) nd rfl (Or.inl rfl)) (pgs_cons (pg_name (i := 7) nd rfl (Or.inl rfl)) pgs_nil)))))))
        (pss_cons (ps_set (i := 8) nd rfl (Or.inl rfl) (pe_lst pa_nil))
        (pss_cons (ps_if (pt_cmpR op_eq (pe_ix it_tup (pv 0) pe_int (fun _ _ => rfl)) pe_str (nomark _)) (pss_one (ps_for PassesOwn.never rfl (pi_L (pv 6)) (pg_name (i := 9) nd rfl (Or.inr rfl)) (pss_one (ps_expr (pe_bm PySem.F.plainAttrs_list PySem.F.slot_list_extend PySem.F.type_list_extend mt_extend (pv 8) (pa_cons (pe_lc (own := [("_law_other", 16)]) (g := gName 16) (tt := tYes) rfl nd (pi_L (pv 5)) (blkOk_by (own := [("_law_other", 16)]) (by kernel_rfl)) (fun _ _ _ _ _ => pg_name (i := 16) nd rfl (Or.inl rfl)) (fun _ _ _ _ _ => pts_nil) (fun _ _ _ _ _ => (pe_tup (pa_cons (pv 9) (pa_cons (pv 16) pa_nil))))) pa_nil)))))) pss_nil)
        (pss_one (ps_ret (pe_lst (pa_cons (pv 3) (pa_cons pe_bl (pa_cons (pv 5) (pa_cons (pv 6) (pa_cons (pe_op op_cat (pv 7) (pv 8)) pa_nil))))))))))) pss_nil)
      (pss_cons (ps_asg (pe_lst (pa_cons pe_int (pa_cons (pe_cmpR op_eq (pe_ix it_tup (pv 0) pe_int (fun _ _ => rfl)) pe_str (nomark _)) (pa_cons (pe_lst pa_nil) (pa_cons (pe_lst pa_nil) (pa_cons (pe_lst pa_nil) pa_nil)))))) (pg_unl (n := 5) rfl (pgs_cons (pg_name (i := 3) nd rfl (Or.inl rfl)) (pgs_cons (pg_name (i := 4) nd rfl (Or.inl rfl)) (pgs_cons (pg_name (i := 5) nd rfl (Or.inl rfl)) (pgs_cons (pg_name (i := 6) nd rfl (Or.inl rfl)) (pgs_cons (pg_name (i := 7) nd rfl (Or.inl rfl)) pgs_nil)))))))
      (pss_cons (ps_for PassesOwn.never rfl (pi_U (pe_ix it_tup (pv 0) pe_int (fun _ _ => rfl))) (pg_name (i := 10) nd rfl (Or.inl rfl)) (pss_cons (ps_asg (pe_cd C_law_looks hr (by rfl) (pa_cons (pv 10) (pa_cons (pe_op op_add (pv 1) (pv 3)) pa_nil))) (pg_unl (n := 5) rfl (pgs_cons (pg_name (i := 11) nd rfl (Or.inl rfl)) (pgs_cons (pg_name (i := 12) nd rfl (Or.inl rfl)) (pgs_cons (pg_name (i := 13) nd rfl (Or.inl rfl)) (pgs_cons (pg_name (i := 14) nd rfl (Or.inl rfl)) (pgs_cons (pg_name (i := 15) nd rfl (Or.inl rfl)) pgs_nil)))))))
        (pss_cons (ps_set (i := 3) nd rfl (Or.inl rfl) (pe_op op_add (pv 3) (pv 11)))
        (pss_cons (ps_set (i := 7) nd rfl (Or.inl rfl) (pe_op op_cat (pv 7) (pv 15)))
        (pss_one (ps_if (pt_cmpR op_eq (pe_ix it_tup (pv 0) pe_int (fun _ _ => rfl)) pe_str (nomark _)) (pss_one (ps_par3 (i := 4) (j := 5) (l := 6) rfl nd rfl rfl rfl (by decide) (by decide) (by decide) rfl rfl rfl (pa_cons (pe_or (pv 4) (pe_one (pv 12))) (pa_cons (pe_op op_cat (pv 5) (pv 13)) (pa_cons (pe_op op_cat (pv 6) (pv 14)) pa_nil))) (by rfl))) (pss_cons (ps_for PassesOwn.never rfl (pi_L (pv 6)) (pg_name (i := 9) nd rfl (Or.inr rfl)) (pss_one (ps_expr (pe_bm PySem.F.plainAttrs_list PySem.F.slot_list_extend PySem.F.type_list_extend mt_extend (pv 7) (pa_cons (pe_lc (own := [("_law_other", 16)]) (g := gName 16) (tt := tYes) rfl nd (pi_L (pv 13)) (blkOk_by (own := [("_law_other", 16)]) (by kernel_rfl)) (fun _ _ _ _ _ => pg_name (i := 16) nd rfl (Or.inl rfl)) (fun _ _ _ _ _ => pts_nil) (fun _ _ _ _ _ => (pe_tup (pa_cons (pv 9) (pa_cons (pv 16) pa_nil))))) pa_nil)))))
          (pss_cons (ps_set (i := 5) nd rfl (Or.inl rfl) (pe_ifExp (pt_val (pv 4)) (pe_op op_cat (pv 5) (pv 13)) (pv 5)))
          (pss_cons (ps_set (i := 6) nd rfl (Or.inl rfl) (pe_ifExp (pt_val (pv 12)) (pe_op op_cat (pv 6) (pv 14)) (pv 14)))
          (pss_one (ps_set (i := 4) nd rfl (Or.inl rfl) (pe_and (pv 4) (pe_one (pv 12))))))))))))))
      (pss_one (ps_ret (pe_lst (pa_cons (pv 3) (pa_cons (pv 4) (pa_cons (pv 5) (pa_cons (pv 6) (pa_cons (pv 7) pa_nil)))))))))))), ?_⟩
  obtain ⟨n', kn, kb⟩ := rE_str hv
  refine ⟨_, rfl, _, _, _, _, rfl, kn, kb, _, rfl, ?_⟩
  cases e with
  | lf x =>
    have hv : v = _ := hv
    subst hv
    have hls : (sOf x.toList).length ≤ sizeLine := by rw [sOf_len]; exact Nat.le_trans h8 (by decide)
    have hxl : x.toList.length ≤ 1 := by
      cases x with
      | none => exact Nat.zero_le _
      | some c => exact Nat.le_refl _
    refine iteT ⟨_, rfl, by show 1 ≤ sizeLine; decide, fun a ha => ?_⟩
    have s1 := same_new ha (.lst [vN st])
    refine ⟨_, rfl, _, rfl, hls, a, _, _, rfl, rfl, upd_same, by have := sOf_len x.toList; omega, by have := sOf_len x.toList; omega, ?_, fun b hb => ?_⟩
    · have e1 : (((sOf x.toList).length : Nat) : Int).toNat = x.toList.length := by rw [sOf_len]; rfl
      rw [e1]
      exact Nat.le_trans (by show 1 * _ ≤ 1; omega) (by decide)
    have e2 : (List.replicate (((sOf x.toList).length : Nat) : Int).toNat [vN st]).flatten = (List.replicate x.toList.length st).map vN := by
      rw [sOf_len]
      cases x <;> rfl
    rw [e2]
    have s2 := same_new hb (.lst ((List.replicate x.toList.length st).map vN))
    have hb2 : upd (upd H a (.lst [vN st])) b (.lst ((List.replicate x.toList.length st).map vN)) b = _ := upd_same
    have s12 := s1.trans s2
    generalize upd (upd H a (.lst [vN st])) b (.lst ((List.replicate x.toList.length st).map vN)) = H2 at s12 hb2 ⊢
    have e0 : decide (V.str (sOf x.toList) = V.str "") = x.isNone := by
      cases x with
      | none => decide +kernel
      | some c => cases c <;> decide +kernel
    refine ⟨_, rfl, _, rfl, hls, _, rfl, rfl, _, rfl, _, rfl, Nat.zero_le _, fun c hc => ⟨by show 5 ≤ sizeLine; decide, fun t ht => ?_⟩⟩
    have s3 := same_new hc (.lst [])
    have s4 := same_new ht (.lst [.int ((sOf x.toList).length : Int), .bl (decide (V.str (sOf x.toList) = V.str "")), .ref b, .ref b, .ref c])
    refine q t b b c _ (s12.trans (s3.trans s4)) ⟨?_, s4 _ _ (s3 _ _ hb2), s4 _ _ (s3 _ _ hb2), [], s4 _ _ upd_same, .nil⟩
    rw [upd_same, e0, sOf_len]
    rfl
  | sg m e =>
    cases n with
    | zero => exact hg.elim
    | succ d =>
    obtain ⟨p, u, rfl, h2, h3⟩ := hv
    have hll : (Ex.sg m e).lets = e.lets := rfl
    rw [hll] at h8
    obtain ⟨b1, b2, b3, b4, b5⟩ := look_few (d := d) hg h8 (by omega) st
    have e0 : inV (.str (sgS m)) ([("maybe" : Str), "many"].map V.str) = true := w_single m
    refine iteF ⟨_, rfl, _, _, 0, _, rfl, rfl, h2, rfl, (by show 2 ≤ sizeLine; decide), fun a ha => ⟨a, ["maybe", "many"], _, rfl, rfl, .inl upd_same, _, rfl, ?_⟩⟩
    rw [e0]
    have s1 := same_new ha (.lst [.str "maybe", .str "many"])
    generalize upd H a (.lst [.str "maybe", .str "many"]) = H1 at s1 ⊢
    refine iteT ⟨_, rfl, _, _, 1, _, rfl, rfl, s1 _ _ h2, rfl, _, rfl, e, u, d, st, none, rfl, rfl, rE_ts (TS.of s1) _ _ h3, hg, h8, by omega, fun t fa la pa H2 s2 hG => ?_⟩
    refine ⟨t, _, rfl, SqL.of hG.t, rfl, _, _, rfl, _, _, rfl, _, _, rfl, _, _, rfl, _, _, rfl, rfl, Nat.zero_le _, fun c hc => ?_⟩
    have s3 := same_new hc (.lst [])
    have hc3 : upd H2 c (.lst []) c = some (.lst []) := upd_same
    generalize upd H2 c (.lst []) = H3 at s3 hc3 ⊢
    have s13 := s1.trans (s2.trans s3)
    obtain ⟨qs, hq1, hq2⟩ := hG.p
    have hql := hq2.length
    refine ⟨_, rfl, _, _, 0, _, rfl, rfl, s13 _ _ h2, rfl, rfl, _, rfl, ?_⟩
    rw [w_many]
    cases m with
    | false =>
      refine iteF ⟨_, rfl, _, rfl, _, rfl, _, rfl, _, rfl, pa, c, qs, [], rfl, rfl, s3 _ _ hq1, hc3, Nat.le_trans (by show qs.length + 0 ≤ 1000; omega) (by decide), fun r hr' => ⟨by show 5 ≤ sizeLine; decide, fun t2 ht2 => ?_⟩⟩
      have s5 := same_new hr' (.lst (qs ++ []))
      have s6 := same_new ht2 (.lst [vN (look e st).n, .bl true, .ref fa, .ref la, .ref r])
      have s46 := s3.trans (s5.trans s6)
      refine q t2 fa la r _ (s1.trans (s2.trans s46)) ⟨upd_same, hG.f.same s46, hG.l.same s46, _, s6 _ _ upd_same, ?_⟩
      exact pr_app (pr_imp hq2 fun _ _ _ r => rPr_ts (TS.of s46) r) .nil
    | true =>
      refine iteT ⟨_, rfl, la, _, rfl, s3 _ _ hG.l, fun K' => ?_⟩
      refine for_by (wk_lst fun H4 (s4 : Same H2 H4) => s4 _ _ hG.l)
        (fun i σ H4 => ∃ (y9 : Option V), σ = [some (.ref p), some (vN st), none, some (vN (look e st).n), some (.bl (look e st).e), some (.ref fa), some (.ref la), some (.ref pa), some (.ref c), y9, none, none, none, none, none, none, none] ∧ Same H2 H4 ∧
          ∃ zs, H4 c = some (.lst zs) ∧ Paired (fun q v => rPr q v H4) (prd ((look e st).l.take i) (look e st).f) zs)
        (fun i σ H4 ⟨_, _, h, _⟩ => h) ⟨none, rfl, s3, [], hc3, .nil⟩ ?_ ?_
      · rintro i x σ H4 hi ⟨y9, rfl, s4, zs, hzs, hpz⟩
        obtain ⟨j, hj, rfl⟩ := pr_get (nat_pr _) hi
        refine ⟨_, rfl, .inl ⟨rfl, _, SqL.of hzs⟩, _, rfl, fa, _, rfl, s4 _ _ hG.f, fun K2 D hD => ?_⟩
        refine lc_rel (R := fun n v => v = vN n) (l := (look e st).f) hD (wk_lst fun H5 s5 => s5 _ _ (s4 _ _ hG.f)) (nat_pr _) (by omega) (fun _ => true) (fun o v H5 => rPr (j, o) v H5) (fun _ _ _ _ s r => rPr_ts (TS.of s) r) (fun _ _ _ _ _ h r => rPr_ts (TS.upd h) r) (fun o u H5 ho hRo s5 hDl Ky Kn k1 _ => ?_) (fun H5 ys s5 hys hpy => ?_)
        · subst hRo
          exact ⟨rfl, yesT (iteT ⟨_, rfl, _, rfl, by show 2 ≤ sizeLine; decide, fun z hz => k1 _ _ rfl (same_new hz _) ⟨z, rfl, upd_same⟩⟩)⟩
        · rw [filter_yes] at hpy
          have hyl := hpy.length
          have hzl := hpz.length
          rw [len_prd, List.length_take] at hzl
          have hz64 : zs.length ≤ 64 := by
            rw [← hzl]
            exact Nat.le_trans (Nat.mul_le_mul (by omega : _ ≤ 8) (by omega : _ ≤ 8)) (by decide)
          have hzs5 := s5 _ _ hzs
          refine ⟨c, D, zs, ys, rfl, rfl, hzs5, hys, Nat.le_trans (by omega : _ ≤ 1000) (by decide), ?_⟩
          refine ⟨_, rfl, same_mut (s4.trans s5) hc, zs ++ ys, upd_same, ?_⟩
          have e1 : prd ((look e st).l.take (i + 1)) (look e st).f = prd ((look e st).l.take i) (look e st).f ++ (look e st).f.map fun y => (j, y) := by
            unfold prd
            rw [take_flat _ hj]
          rw [e1]
          refine pr_app (pr_imp hpz fun _ _ _ r => rPr_ts ((TS.of s5).trans (TS.upd hzs5)) r) ?_
          have hg2 : ∀ {l : List Nat} {zs' : List V}, Paired (fun o v => rPr (j, o) v H5) l zs' → Paired (fun q v => rPr q v (upd H5 c (.lst (zs ++ ys)))) (l.map fun y => (j, y)) zs' := by
            intro l zs' h
            induction h with
            | nil => exact .nil
            | cons h1 _ ih => exact .cons (rPr_ts (TS.upd hzs5) h1) ih
          exact hg2 hpy
      · rintro σ H4 ⟨y9, rfl, s4, zs, hzs, hpz⟩
        rw [List.length_map, List.take_length] at hpz
        refine ⟨_, rfl, _, rfl, _, rfl, _, rfl, _, rfl, pa, c, qs, zs, rfl, rfl, s4 _ _ hq1, hzs, ?_, fun r hr' => ⟨by show 5 ≤ sizeLine; decide, fun t2 ht2 => ?_⟩⟩
        · have hzl := hpz.length
          rw [len_prd] at hzl
          have h64 := Nat.mul_le_mul (Nat.le_trans b4 h8) (Nat.le_trans b3 h8)
          exact Nat.le_trans (by omega : _ ≤ 1000) (by decide)
        · have s5 := same_new hr' (.lst (qs ++ zs))
          have s6 := same_new ht2 (.lst [vN (look e st).n, .bl true, .ref fa, .ref la, .ref r])
          have s46 := s4.trans (s5.trans s6)
          refine q t2 fa la r _ (s1.trans (s2.trans s46)) ⟨upd_same, hG.f.same s46, hG.l.same s46, _, s6 _ _ upd_same, ?_⟩
          exact pr_app (pr_imp hq2 fun _ _ _ r => rPr_ts (TS.of s46) r) (pr_imp hpz fun _ _ _ r => rPr_ts (TS.of (s5.trans s6)) r)
  | ro b es =>
    cases n with
    | zero => exact hg.elim
    | succ d =>
    have bAll := look_few hg h8 hd6 st
    obtain ⟨g1, g2, g3, g4⟩ := hg
    obtain ⟨p, p2, us, rfl, h2, h3, h4⟩ := hv
    have hpr : Paired (fun e u => rE e u H) es us := rEs_pr h4
    have hesl : (letsL es).length ≤ 8 := h8
    have e0 : inV (.str (roS b)) ([("maybe" : Str), "many"].map V.str) = false := w_row b
    refine iteF ⟨_, rfl, _, _, 0, _, rfl, rfl, h2, rfl, (by show 2 ≤ sizeLine; decide), fun a ha => ⟨a, ["maybe", "many"], _, rfl, rfl, .inl upd_same, _, rfl, ?_⟩⟩
    rw [e0]
    have s1 := same_new ha (.lst [.str "maybe", .str "many"])
    generalize upd H a (.lst [.str "maybe", .str "many"]) = H1 at s1 ⊢
    refine iteF ⟨_, rfl, _, _, 0, _, rfl, rfl, s1 _ _ h2, rfl, rfl, ?_⟩
    rw [w_join]
    refine ⟨Nat.zero_le _, fun fa0 hfa => ⟨Nat.zero_le _, fun la0 hla => ⟨Nat.zero_le _, fun pa0 hpa => ⟨by show 5 ≤ sizeLine; decide, fun t ht => ?_⟩⟩⟩⟩
    have r1 := same_new hfa (.lst [])
    have r2 := same_new hla (.lst [])
    have r3 := same_new hpa (.lst [])
    have r4 := same_new ht (.lst [.int 0, .bl (!b), .ref fa0, .ref la0, .ref pa0])
    have hf0 : upd (upd (upd (upd H1 fa0 (.lst [])) la0 (.lst [])) pa0 (.lst [])) t (.lst [.int 0, .bl (!b), .ref fa0, .ref la0, .ref pa0]) fa0 = some (.lst []) := r4 _ _ (r3 _ _ (r2 _ _ upd_same))
    have hl0 : upd (upd (upd (upd H1 fa0 (.lst [])) la0 (.lst [])) pa0 (.lst [])) t (.lst [.int 0, .bl (!b), .ref fa0, .ref la0, .ref pa0]) la0 = some (.lst []) := r4 _ _ (r3 _ _ upd_same)
    have hp0 : upd (upd (upd (upd H1 fa0 (.lst [])) la0 (.lst [])) pa0 (.lst [])) t (.lst [.int 0, .bl (!b), .ref fa0, .ref la0, .ref pa0]) pa0 = some (.lst []) := r4 _ _ upd_same
    have ht0 : upd (upd (upd (upd H1 fa0 (.lst [])) la0 (.lst [])) pa0 (.lst [])) t (.lst [.int 0, .bl (!b), .ref fa0, .ref la0, .ref pa0]) t = some (.lst [.int 0, .bl (!b), .ref fa0, .ref la0, .ref pa0]) := upd_same
    have s2 := s1.trans (r1.trans (r2.trans (r3.trans r4)))
    generalize upd (upd (upd (upd H1 fa0 (.lst [])) la0 (.lst [])) pa0 (.lst [])) t (.lst [.int 0, .bl (!b), .ref fa0, .ref la0, .ref pa0]) = H2 at s2 hf0 hl0 hp0 ht0 ⊢
    refine ⟨t, _, rfl, SqL.of ht0, rfl, _, _, rfl, _, _, rfl, _, _, rfl, _, _, rfl, _, _, rfl, rfl, ?_⟩
    refine ⟨_, rfl, _, _, 1, _, rfl, rfl, s2 _ _ h2, rfl, p2, us, rfl, s2 _ _ h3, fun K' => ?_⟩
    refine for_by (wk_tup fun H4 (s4 : Same H H4) => s4 _ _ h3)
      (fun i σ H4 => ∃ (fa la pa : Addr) (g : L) (y9 y10 y11 y12 y13 y14 y15 : Option V), σ = [some (.ref p), some (vN st), none, some (vN g.n), some (.bl g.e), some (.ref fa), some (.ref la), some (.ref pa), none, y9, y10, y11, y12, y13, y14, y15, none] ∧
        Same H H4 ∧ rLN g.f fa H4 ∧ rLN g.l la H4 ∧ rLP g.p pa H4 ∧ lookL b (es.drop i) st g = look (.ro b es) st ∧ g.n + (letsL (es.drop i)).length = (letsL es).length ∧ g.f.length ≤ g.n ∧ g.l.length ≤ g.n)
      (fun i σ H4 ⟨_, _, _, _, _, _, _, _, _, _, _, _, h, _⟩ => h)
      ⟨fa0, la0, pa0, ⟨0, !b, [], [], []⟩, none, none, none, none, none, none, none, rfl, s2, hf0, hl0, ⟨[], hp0, .nil⟩, rfl, Nat.zero_add _, Nat.zero_le _, Nat.zero_le _⟩ ?_ ?_
    · rintro i x σ H4 hi ⟨fa, la, pa, g, y9, y10, y11, y12, y13, y14, y15, rfl, s4, hf, hl, hp, hrun, htot, hfn, hln⟩
      obtain ⟨e, he, hRe⟩ := pr_get hpr hi
      have hem : e ∈ es := List.mem_of_getElem? he
      have hilt : i < es.length := (List.getElem?_eq_some_iff.mp he).1
      have hdrop : es.drop i = e :: es.drop (i + 1) := by
        rw [List.drop_eq_getElem_cons hilt]
        congr 1
        rw [List.getElem?_eq_getElem hilt] at he
        exact Option.some.inj he
      have hee : e.lets.length + (letsL (es.drop (i + 1))).length = (letsL (es.drop i)).length := by
        rw [hdrop, letsL, List.length_append]
      have he8 : e.lets.length ≤ 8 := by omega
      obtain ⟨b1, b2, b3, b4, b5⟩ := look_few (g4 e hem) he8 (by omega) (st + g.n)
      have hrun' : lookL b (es.drop (i + 1)) st (lstep b g (look e (st + g.n))) = look (.ro b es) st := by
        rw [hdrop] at hrun
        exact hrun
      have hgp : (lstep b g (look e (st + g.n))).p.length ≤ 448 := by
        refine Nat.le_trans (lookL_p b (es.drop (i + 1)) st _) ?_
        rw [hrun']
        exact bAll.2.2.2.2
      have hgpp : g.p.length + (look e (st + g.n)).p.length ≤ 448 := by
        refine Nat.le_trans ?_ hgp
        unfold lstep
        cases b
        · show _ ≤ (g.p ++ (look e (st + g.n)).p ++ prd g.l (look e (st + g.n)).f).length
          rw [List.length_append, List.length_append]; omega
        · show _ ≤ (g.p ++ (look e (st + g.n)).p).length
          rw [List.length_append]; exact Nat.le_refl _
      have hx4 : rE e x H4 := rE_ts (TS.of s4) _ _ hRe
      refine ⟨_, rfl, _, rfl, _, rfl, _, _, rfl, rfl, e, x, d, st + g.n, some b, rfl, rfl, hx4, g4 e hem, he8, by omega, fun t1 f1 l1 p1 H5 s5 hG1 => ?_⟩
      refine ⟨t1, _, rfl, SqL.of hG1.t, rfl, _, _, rfl, _, _, rfl, _, _, rfl, _, _, rfl, _, _, rfl, rfl, ?_⟩
      -- many = many + size; pairs = pairs + inner
      obtain ⟨qs, hq1, hq2⟩ := hp
      obtain ⟨qe, hqe1, hqe2⟩ := hG1.p
      have hql := hq2.length
      have hqel := hqe2.length
      refine ⟨_, rfl, _, rfl, _, _, rfl, rfl, _, rfl, _, rfl, pa, p1, qs, qe, rfl, rfl, s5 _ _ hq1, hqe1, Nat.le_trans (by omega : _ ≤ 448) (by decide), fun c hc => ?_⟩
      have s6 := same_new hc (.lst (qs ++ qe))
      have hc6 : upd H5 c (.lst (qs ++ qe)) c = some (.lst (qs ++ qe)) := upd_same
      generalize upd H5 c (.lst (qs ++ qe)) = H6 at s6 hc6 ⊢
      have s46 := s5.trans s6
      have hpc : Paired (fun q v => rPr q v H6) (g.p ++ (look e (st + g.n)).p) (qs ++ qe) :=
        pr_app (pr_imp hq2 fun _ _ _ r => rPr_ts (TS.of s46) r) (pr_imp hqe2 fun _ _ _ r => rPr_ts (TS.of s6) r)
      have eN : V.int ((g.n : Int) + ((look e (st + g.n)).n : Int)) = vN (g.n + (look e (st + g.n)).n) := rfl
      refine ⟨_, rfl, _, _, 0, _, rfl, rfl, s46 _ _ (s4 _ _ h2), rfl, rfl, _, rfl, ?_⟩
      rw [w_or]
      cases b with
      | true =>
        refine iteT ⟨_, rfl, g.e, rfl, or_var rfl ?_⟩
        refine ⟨_, rfl, _, rfl, fa, f1, _, _, rfl, rfl, hf.same s46, hG1.f.same s6, by rw [List.length_map, List.length_map]; exact Nat.le_trans (by omega : _ ≤ 16) (by decide), fun c1 hc1 => ?_⟩
        have s7 := same_new hc1 (.lst (g.f.map vN ++ (look e (st + g.n)).f.map vN))
        have hc7 : upd H6 c1 (.lst (g.f.map vN ++ (look e (st + g.n)).f.map vN)) c1 = _ := upd_same
        generalize upd H6 c1 (.lst (g.f.map vN ++ (look e (st + g.n)).f.map vN)) = H7 at s7 hc7 ⊢
        refine ⟨_, rfl, _, rfl, la, l1, _, _, rfl, rfl, hl.same (s46.trans s7), hG1.l.same (s6.trans s7), by rw [List.length_map, List.length_map]; exact Nat.le_trans (by omega : _ ≤ 16) (by decide), fun c2 hc2 => ⟨_, _, _, rfl, ?_⟩⟩
        have s8 := same_new hc2 (.lst (g.l.map vN ++ (look e (st + g.n)).l.map vN))
        refine ⟨c1, c2, c, lstep true g (look e (st + g.n)), _, _, _, _, _, _, _, rfl, s4.trans (s46.trans (s7.trans s8)), ?_, ?_, ⟨_, s8 _ _ (s7 _ _ hc6), pr_imp hpc fun _ _ _ r => rPr_ts (TS.of (s7.trans s8)) r⟩, hrun', ?_, ?_, ?_⟩
        · show _ = some (HO.lst ((g.f ++ (look e (st + g.n)).f).map vN))
          rw [List.map_append]
          exact s8 _ _ hc7
        · show _ = some (HO.lst ((g.l ++ (look e (st + g.n)).l).map vN))
          rw [List.map_append]
          exact upd_same
        · show g.n + (look e (st + g.n)).n + _ = _
          omega
        · show (g.f ++ (look e (st + g.n)).f).length ≤ g.n + (look e (st + g.n)).n
          rw [List.length_append]; omega
        · show (g.l ++ (look e (st + g.n)).l).length ≤ g.n + (look e (st + g.n)).n
          rw [List.length_append]; omega
      | false =>
        -- for one in last: pairs.extend([(one, other) for other in head])
        refine iteF ⟨_, rfl, la, _, rfl, hl.same s46, fun K2 => ?_⟩
        refine for_by (wk_lst fun H7 (s7 : Same H5 H7) => s7 _ _ (hl.same s5))
          (fun j σ H7 => ∃ (z9 : Option V), σ = [some (.ref p), some (vN st), none, some (vN (g.n + (look e (st + g.n)).n)), some (.bl g.e), some (.ref fa), some (.ref la), some (.ref c), none, z9, some x, some (vN (look e (st + g.n)).n), some (.bl (look e (st + g.n)).e), some (.ref f1), some (.ref l1), some (.ref p1), none] ∧
            Same H5 H7 ∧ ∃ zs, H7 c = some (.lst zs) ∧ Paired (fun q v => rPr q v H7) (g.p ++ (look e (st + g.n)).p ++ prd (g.l.take j) (look e (st + g.n)).f) zs)
          (fun j σ H7 ⟨_, _, h, _⟩ => h) ⟨_, rfl, s6, _, hc6, by rw [List.take_zero]; show Paired _ (_ ++ []) _; rw [List.append_nil]; exact hpc⟩ ?_ ?_
        · rintro j x' σ H7 hj' ⟨z9, rfl, s7, zs, hzs, hpz⟩
          obtain ⟨one, hone, rfl⟩ := pr_get (nat_pr _) hj'
          refine ⟨_, rfl, .inl ⟨rfl, _, SqL.of hzs⟩, _, rfl, f1, _, rfl, s7 _ _ hG1.f, fun K3 D hD => ?_⟩
          refine lc_rel (R := fun n v => v = vN n) (l := (look e (st + g.n)).f) hD (wk_lst fun H8 s8 => s8 _ _ (s7 _ _ hG1.f)) (nat_pr _) (by omega) (fun _ => true) (fun o v H8 => rPr (one, o) v H8) (fun _ _ _ _ s r => rPr_ts (TS.of s) r) (fun _ _ _ _ _ h r => rPr_ts (TS.upd h) r) (fun o u H8 ho hRo s8 hDl Ky Kn k1 _ => ?_) (fun H8 ys s8 hys hpy => ?_)
          · subst hRo
            exact ⟨rfl, yesT (iteT ⟨_, rfl, _, rfl, by show 2 ≤ sizeLine; decide, fun z hz => k1 _ _ rfl (same_new hz _) ⟨z, rfl, upd_same⟩⟩)⟩
          · rw [filter_yes] at hpy
            have hyl := hpy.length
            have hzl := hpz.length
            rw [List.length_append, List.length_append, len_prd, List.length_take] at hzl
            have h64 := Nat.mul_le_mul (by omega : min j g.l.length ≤ 8) (by omega : (look e (st + g.n)).f.length ≤ 8)
            have hzs8 := s8 _ _ hzs
            refine ⟨c, D, zs, ys, rfl, rfl, hzs8, hys, Nat.le_trans (by omega : _ ≤ 1000) (by decide), ?_⟩
            refine ⟨_, rfl, same_mut (s7.trans s8) hc, zs ++ ys, upd_same, ?_⟩
            have e1 : prd (g.l.take (j + 1)) (look e (st + g.n)).f = prd (g.l.take j) (look e (st + g.n)).f ++ (look e (st + g.n)).f.map fun y => (one, y) := by
              unfold prd
              rw [take_flat _ hone]
            rw [e1, ← List.append_assoc]
            refine pr_app (pr_imp hpz fun _ _ _ r => rPr_ts ((TS.of s8).trans (TS.upd hzs8)) r) ?_
            have hg2 : ∀ {l : List Nat} {zs' : List V}, Paired (fun o v => rPr (one, o) v H8) l zs' → Paired (fun q v => rPr q v (upd H8 c (.lst (zs ++ ys)))) (l.map fun y => (one, y)) zs' := by
              intro l zs' h
              induction h with
              | nil => exact .nil
              | cons h1 _ ih => exact .cons (rPr_ts (TS.upd hzs8) h1) ih
            exact hg2 hpy
        · rintro σ H7 ⟨z9, rfl, s7, zs, hzs, hpz⟩
          rw [List.length_map, List.take_length] at hpz
          -- first = first + head if empty else first
          refine ⟨_, rfl, g.e, rfl, cat_if rfl rfl rfl (hf.same (s5.trans s7)) (hG1.f.same s7) (hf.same (s5.trans s7)) (by rw [List.length_map, List.length_map]; exact Nat.le_trans (by omega : _ ≤ 16) (by decide)) fun c1 H8 s8 hc8 => ?_⟩
          refine ⟨_, rfl, _, rfl, cat_if rfl rfl rfl (hl.same (s5.trans (s7.trans s8))) (hG1.l.same (s7.trans s8)) (hG1.l.same (s7.trans s8)) (by rw [List.length_map, List.length_map]; exact Nat.le_trans (by omega : _ ≤ 16) (by decide)) fun c2 H9 s9 hc9 => ?_⟩
          refine ⟨_, rfl, g.e, rfl, and_var rfl ?_⟩
          refine ⟨c1, c2, c, lstep false g (look e (st + g.n)), _, _, _, _, _, _, _, rfl, s4.trans (s5.trans (s7.trans (s8.trans s9))), ?_, ?_, ⟨_, s9 _ _ (s8 _ _ hzs), pr_imp hpz fun _ _ _ r => rPr_ts (TS.of (s8.trans s9)) r⟩, hrun', ?_, ?_, ?_⟩
          · show _ = some (HO.lst ((if g.e then g.f ++ (look e (st + g.n)).f else g.f).map vN))
            rw [s9 _ _ hc8]
            cases g.e <;> simp
          · show _ = some (HO.lst ((if (look e (st + g.n)).e then g.l ++ (look e (st + g.n)).l else (look e (st + g.n)).l).map vN))
            rw [hc9]
            cases (look e (st + g.n)).e <;> simp
          · show g.n + (look e (st + g.n)).n + _ = _
            omega
          · show (if g.e then g.f ++ (look e (st + g.n)).f else g.f).length ≤ g.n + (look e (st + g.n)).n
            cases g.e <;> simp <;> omega
          · show (if (look e (st + g.n)).e then g.l ++ (look e (st + g.n)).l else (look e (st + g.n)).l).length ≤ g.n + (look e (st + g.n)).n
            cases (look e (st + g.n)).e <;> simp <;> omega
    · rintro σ H4 ⟨fa, la, pa, g, y9, y10, y11, y12, y13, y14, y15, rfl, s4, hf, hl, hp, hrun, htot, hfn, hln⟩
      have hend : es.drop us.length = [] := by rw [← hpr.length]; exact List.drop_length
      rw [hend] at hrun
      have hrun : g = look (.ro b es) st := hrun
      subst hrun
      refine ⟨_, rfl, _, rfl, _, rfl, _, rfl, _, rfl, by show 5 ≤ sizeLine; decide, fun t2 ht2 => ?_⟩
      have s5 := same_new ht2 (.lst [vN (look (.ro b es) st).n, .bl (look (.ro b es) st).e, .ref fa, .ref la, .ref pa])
      exact q t2 fa la pa _ (s4.trans s5) ⟨upd_same, hf.same s5, hl.same s5, hp.same s5⟩
end
end K65
end

section
set_option Elab.async false
set_option linter.all false
set_option maxRecDepth 100000
set_option maxHeartbeats 4000000
/-! The law's conflicts. -/
namespace K65
open PySem L2
open PyProof.Rows (envOfC)

/-- all but what stands at c is as it was -/
def SameX (c : Addr) (H H' : Hp) : Prop := ∀ a o, a ≠ c → H a = some o → H' a = some o
theorem SameX.of {c : Addr} {H H' : Hp} (h : Same H H') : SameX c H H' := fun a o _ e => h a o e
theorem SameX.trans {c : Addr} {H H1 H2 : Hp} (a : SameX c H H1) (b : SameX c H1 H2) : SameX c H H2 := fun x o n e => b x o n (a x o n e)
theorem SameX.refl (c : Addr) (H : Hp) : SameX c H H := fun _ _ _ e => e
theorem SameX.upd {c : Addr} {H : Hp} {o : HO} : SameX c H (upd H c o) := fun a u n e => by rw [upd_ne n]; exact e
theorem SameX.ts {c : Addr} {H H' : Hp} {l : List V} (h : SameX c H H') (hc : H c = some (.lst l)) : TS H H' := fun a xs e => h a _ (ne_of e hc (by intro z; cases z)) e
theorem SameX.same {c : Addr} {H0 H H' : Hp} (h : SameX c H H') (s : Same H0 H) (hc : H0 c = none) : Same H0 H' := fun a o e => h a o (ne_of_none e hc) (s a o e)

theorem fnd_confl {e : Ex} (hx : ExOk e) {f : List Nat} {fo : List (List Nat)} (hf : ∀ x, x ∈ f ↔ x ∈ (gath e 0).f) (hl : fo.length = e.lets.length) (hr : ∀ p m, fo[p]? = some m → ∀ x, x ∈ m ↔ (p, x) ∈ (gath e 0).p) (q : Nat × Nat) :
    q ∈ (f :: fo).flatMap (prs e.lets) ↔ Confl e q := by
  rw [List.mem_flatMap]
  constructor
  · rintro ⟨g, hg, hq⟩
    obtain ⟨h1, h2, h3, h4⟩ := mem_prs.mp hq
    refine ⟨h3, h4, ?_⟩
    rcases List.mem_cons.mp hg with rfl | hg
    · exact .inl ⟨(hf _).mp h1, (hf _).mp h2⟩
    · obtain ⟨p, hp⟩ := List.getElem?_of_mem hg
      exact .inr ⟨p, (hr p g hp _).mp h1, (hr p g hp _).mp h2⟩
  · rintro ⟨h3, h4, h1 | ⟨p, h1, h2⟩⟩
    · exact ⟨f, List.mem_cons_self, mem_prs.mpr ⟨(hf _).mpr h1.1, (hf _).mpr h1.2, h3, h4⟩⟩
    · have hp : p < fo.length := by rw [hl]; exact ((gath0 hx).p _ h1).1.2
      have hg := List.getElem?_eq_getElem hp
      exact ⟨fo[p], List.mem_cons_of_mem _ (List.getElem_mem hp), mem_prs.mpr ⟨(hr p _ hg _).mpr h1, (hr p _ hg _).mpr h2, h3, h4⟩⟩
/-- the others behind a place, as the law lists them -/
def grp (ps : List (Nat × Nat)) (p : Nat) : List Nat := (ps.filter fun q => decide (q.1 = p)).map Prod.snd
theorem mem_grp {ps : List (Nat × Nat)} {p x : Nat} : x ∈ grp ps p ↔ (p, x) ∈ ps := by
  unfold grp
  rw [List.mem_map]
  constructor
  · rintro ⟨q, hq, rfl⟩
    obtain ⟨h1, h2⟩ := List.mem_filter.mp hq
    rw [← of_decide_eq_true h2]
    exact h1
  · intro h
    exact ⟨(p, x), List.mem_filter.mpr ⟨h, decide_eq_true rfl⟩, rfl⟩
theorem len_grp (ps : List (Nat × Nat)) (p : Nat) : (grp ps p).length ≤ ps.length := by
  unfold grp
  rw [List.length_map]
  exact List.length_filter_le _ _
def spLConf : Sp := fun vs H Q _ => ∃ (e : Ex) (v : V), vs = [v] ∧ rE e v H ∧ ExOk e ∧
  ∀ (p : Addr) (C : List (Nat × Nat)) (H' : Hp), Same H H' → rLP C p H' → C.Nodup → (∀ q, q ∈ C ↔ Confl e q) → Q (.ref p) H'

section
variable {P : Program} {w : World} {K : PySem.W.Frag} {mg : Str → Option Value} {base : Heap} {k : Nat} {f : Addr} {fd : FuncData}
abbrev s__law_conflicts : Stmt := top 49
theorem sc__law_conflicts : FnScope ["_law_expression", "_law_many", "_law_empty", "_law_first", "_law_last", "_law_pairs", "_law_letters_here", "_law_found", "_law_group", "_law_one", "_law_place", "_law_other"] ["_law_expression"] (defScope s__law_conflicts) := ⟨rfl, rfl, rfl, by decide +kernel, rfl, by decide +kernel, by decide +kernel⟩
theorem ok__law_conflicts {ps1 ps2 ps3 : List Str} (T : Txt K mg) (F : Fun K "_law_conflicts" "_law_conflicts" s__law_conflicts f fd) (C_law_looks : Cd P w K mg base k "_law_looks" ps1 (spLook 7)) (C_law_letters : Cd P w K mg base k "_law_letters" ps2 (spLets 7)) (C_law_once : Cd P w K mg base k "_law_once" ps3 spOnce) :
    FnOk P w K mg base CX0 (k + 1) f fd ["_law_expression"] spLConf := by
  have nd := sc__law_conflicts.nd
  refine F.ok sc__law_conflicts (fun vs H Q E h => ?_) (fun cdv A outer s H vs Q E hr h => ?_)
  · obtain ⟨e, v, rfl, _⟩ := h
    rfl
  obtain ⟨e, v, rfl, hv, hx, q⟩ := h
  have h8 := hx.2.1
  obtain ⟨b1, b2, b3, b4, b5⟩ := look_few hx.1 h8 (Nat.le_refl _) 0
  obtain ⟨_, _, al⟩ := look_gath e 0
  have w0 := gath0 hx
  refine ⟨_, (pss_cons (ps_asg (pe_cd C_law_looks hr (by rfl) (pa_cons (pv 0) (pa_cons pe_int pa_nil))) (pg_unl (n := 5) rfl (pgs_cons (pg_name (i := 1) nd rfl (Or.inl rfl)) (pgs_cons (pg_name (i := 2) nd rfl (Or.inl rfl)) (pgs_cons (pg_name (i := 3) nd rfl (Or.inl rfl)) (pgs_cons (pg_name (i := 4) nd rfl (Or.inl rfl)) (pgs_cons (pg_name (i := 5) nd rfl (Or.inr rfl)) pgs_nil)))))))
      (pss_cons (ps_set (i := 6) nd rfl (Or.inr rfl) (pe_cd C_law_letters hr (by rfl) (pa_cons (pv 0) pa_nil)))
      (pss_cons (ps_set (i := 7) nd rfl (Or.inl rfl) (pe_lst pa_nil))
      (pss_cons (ps_for PassesOwn.never rfl (pi_L (pe_op op_cat (pe_lst (pa_cons (pv 3) pa_nil)) (pe_lc (own := [("_law_place", 10)]) (g := gName 10) (tt := tYes) rfl nd (pi_range1 (by rfl) T.z_range (pa_cons (pv 1) pa_nil)) (blkOk_by (own := [("_law_place", 10)]) (by kernel_rfl)) (fun _ _ _ _ _ => pg_name (i := 10) nd rfl (Or.inr rfl)) (fun _ _ _ _ _ => pts_nil) (fun _ _ _ _ _ => (pe_lc (own := [("_law_one", 9), ("_law_other", 11)]) rfl nd (pi_L (pv 5)) (blkOk_by (own := [("_law_one", 9), ("_law_other", 11)]) (by kernel_rfl)) (fun _ _ _ _ _ => pg_U (n := 2) rfl (pgs_cons (pg_name (i := 9) nd rfl (Or.inl rfl)) (pgs_cons (pg_name (i := 11) nd rfl (Or.inl rfl)) pgs_nil))) (fun _ _ _ _ _ => pts_one (pt_cmpR op_eq (pv 9) (pv 10) (nomark _))) (fun _ _ _ _ _ => (pv 11))))))) (pg_name (i := 8) nd rfl (Or.inl rfl)) (pss_one (ps_for PassesOwn.never rfl (pi_L (pv 8)) (pg_name (i := 9) nd rfl (Or.inr rfl)) (pss_one (ps_expr (pe_bm PySem.F.plainAttrs_list PySem.F.slot_list_extend PySem.F.type_list_extend mt_extend (pv 7) (pa_cons (pe_lc (own := [("_law_other", 11)]) (g := gName 11) rfl nd (pi_L (pv 8)) (blkOk_by (own := [("_law_other", 11)]) (by kernel_rfl)) (fun _ _ _ _ _ => pg_name (i := 11) nd rfl (Or.inl rfl)) (fun _ _ _ _ _ => pts_one (PW.pt (pw_and (pt_cmpR op_lt (pv 9) (pv 11) (nomark _)) (pw_and1 (pt_cmpR op_eq (pe_ix it_str (pv 6) (pv 9) (fun _ _ => rfl)) (pe_ix it_str (pv 6) (pv 11) (fun _ _ => rfl)) (nomark _)))))) (fun _ _ _ _ _ => (pe_tup (pa_cons (pv 9) (pa_cons (pv 11) pa_nil))))) pa_nil)))))))
      (pss_one (ps_ret (pe_callB cr_sortP (by rfl) T.z_sorted (by decide +kernel) (pa_cons (pe_cd C_law_once hr (by rfl) (pa_cons (pv 7) pa_nil)) pa_nil)))))))), ?_⟩
  refine ⟨_, rfl, e, v, 6, 0, none, rfl, rfl, hv, hx.1, h8, Nat.le_refl _, fun t fa la pa H1 s1 hG => ?_⟩
  refine ⟨t, _, rfl, SqL.of hG.t, rfl, _, _, rfl, _, _, rfl, _, _, rfl, _, _, rfl, _, _, rfl, rfl, ?_⟩
  refine ⟨_, rfl, e, v, 6, none, rfl, rfl, rE_ts (TS.of s1) _ _ hv, hx.1, h8, fun H2 s2 => ?_⟩
  refine ⟨Nat.zero_le _, fun c hc => ?_⟩
  have s3 := same_new hc (.lst [])
  have hc3 : upd H2 c (.lst []) c = some (.lst []) := upd_same
  generalize upd H2 c (.lst []) = H3 at s3 hc3 ⊢
  have hls : (sOf e.lets).length ≤ sizeLine := by rw [sOf_len]; exact Nat.le_trans h8 (by decide)
  have hlow : (∀ x ∈ (look e 0).f, x < e.lets.length) ∧ ∀ p x, x ∈ grp (look e 0).p p → x < e.lets.length := by
    refine ⟨fun x hm => ?_, fun p x hm => ?_⟩
    · rw [al.f] at hm
      exact (w0.f x hm).2
    · exact (w0.p _ ((al.p _).mp (mem_grp.mp hm))).2.2
  generalize look e 0 = g at hG b1 b2 b3 b4 b5 al hlow ⊢
  obtain ⟨qs, hq1, hq2⟩ := hG.p
  have s13 := s2.trans s3
  -- [first] + [[..] for place in range(many)]
  refine ⟨_, rfl, by show 1 ≤ sizeLine; decide, fun c0 hc0 => ?_⟩
  have s4 := same_new hc0 (.lst [.ref fa])
  have hc04 : upd H3 c0 (.lst [.ref fa]) c0 = some (.lst [.ref fa]) := upd_same
  generalize upd H3 c0 (.lst [.ref fa]) = H4 at s4 hc04 ⊢
  have s14 := s13.trans s4
  refine ⟨_, rfl, _, rfl, by omega, by omega, fun D hD => ?_⟩
  refine lc_by (wk_rng (n := g.n) (S := fun _ => True)) (fun i H5 => Same H4 H5 ∧ ∃ as : List Addr, H5 D = some (.lst (as.map V.ref)) ∧ as.length = i ∧ ∀ j a, as[j]? = some a → H5 a = some (.lst ((grp g.p j).map vN)) ∧ H4 a = none ∧ a ≠ D) (fun _ _ _ => trivial)
    ⟨same_new hD _, [], upd_same, rfl, fun j a h => by simp at h⟩ ?_ ?_
  · rintro i x H5 hi ⟨s5, as, hDs, hlen, has⟩
    obtain ⟨i', hi', rfl⟩ := pr_get (nat_pr _) hi
    have hin : i < g.n := by
      have h1 := (List.getElem?_eq_some_iff.mp hi).1
      rw [List.length_map, List.length_range] at h1
      exact h1
    have ei : i' = i := by
      rw [List.getElem?_range hin] at hi'
      exact (Option.some.inj hi').symm
    subst ei
    refine ⟨rfl, yesT (iteT ⟨_, rfl, pa, qs, rfl, s5 _ _ (s14 _ _ hq1), fun K2 D2 hD2 => ?_⟩)⟩
    refine lc_fun (R := fun q v => rPr q v H1) (l := g.p) hD2 (wk_lst fun H6 s6 => s6 _ _ (s5 _ _ (s14 _ _ hq1))) hq2 (by omega) (fun q => decide (q.1 = i')) (fun q => vN q.2) (fun q u H6 hqm hR s6 Ky Kn k1 k0 => ?_) (fun H6 s6 hD6 => ?_)
    · obtain ⟨a, rfl, ha⟩ := rPr_ts (TS.of (s14.trans (s5.trans s6))) hR
      refine ⟨a, _, rfl, ha, rfl, _, _, rfl, _, _, rfl, rfl, rfl, _, rfl, _, rfl, rfl, _, rfl, ?_⟩
      rw [int_eq]
      by_cases h : q.1 = i'
      · rw [decide_eq_true h]
        exact iteT ⟨_, rfl, k1 _ (decide_eq_true h) (Same.refl _)⟩
      · rw [decide_eq_false h]
        exact iteF (k0 _ (decide_eq_false h) (Same.refl _))
    · have hDD : D2 ≠ D := (ne_of_none hDs hD2).symm
      have hDs6 := s6 _ _ hDs
      refine ⟨_, hDs6, by rw [List.length_map, hlen]; exact Nat.lt_of_lt_of_le (by omega : i' < 9) (by decide), same_mut (s5.trans s6) hD, as ++ [D2], by rw [upd_same, List.map_append]; rfl, by rw [List.length_append, hlen]; rfl, fun j a ha => ?_⟩
      by_cases hj : j < as.length
      · rw [List.getElem?_append_left hj] at ha
        obtain ⟨h1, h2, h3⟩ := has j a ha
        exact ⟨by rw [upd_ne h3]; exact s6 _ _ h1, h2, h3⟩
      · rw [List.getElem?_append_right (by omega)] at ha
        have hj0 : j - as.length = 0 := by
          have h1 := (List.getElem?_eq_some_iff.mp ha).1
          rw [List.length_singleton] at h1
          omega
        rw [hj0] at ha
        have ea : D2 = a := Option.some.inj ha
        have ej : j = i' := by omega
        subst ea ej
        refine ⟨?_, (s5.free hD2), hDD⟩
        rw [upd_ne hDD, hD6]
        unfold grp
        rw [List.map_map]
        rfl
  rintro H5 ⟨s5, as, hDs, hlen, has⟩
  rw [List.length_map, List.length_range] at hlen
  refine ⟨c0, D, _, _, rfl, rfl, s5 _ _ hc04, hDs, by rw [List.length_map, hlen]; exact Nat.le_trans (by show 1 + g.n ≤ 9; omega) (by decide), fun cG hcG => ?_⟩
  have s6 := same_new hcG (.lst ([.ref fa] ++ as.map V.ref))
  have hcG6 : upd H5 cG (.lst ([.ref fa] ++ as.map V.ref)) cG = some (.lst ((fa :: as).map V.ref)) := upd_same
  generalize upd H5 cG (.lst ([.ref fa] ++ as.map V.ref)) = H6 at s6 hcG6 ⊢
  have hc6 : H6 c = some (.lst []) := s6 _ _ (s5 _ _ (s4 _ _ hc3))
  have hcGc : cG ≠ c := (ne_of_none (s5 _ _ (s4 _ _ hc3)) hcG).symm
  have hfac : fa ≠ c := ne_of_none (s2 _ _ hG.f) hc
  have hR6 : Rows (fa :: as) (g.f :: (List.range g.n).map (grp g.p)) H6 := by
    refine ⟨by rw [List.length_cons, List.length_cons, hlen, List.length_map, List.length_range], fun i a m ha hm => ?_⟩
    cases i with
    | zero =>
      have e1 : fa = a := Option.some.inj ha
      have e2 : g.f = m := Option.some.inj hm
      rw [← e1, ← e2]
      exact s6 _ _ (s5 _ _ (s14 _ _ hG.f))
    | succ i =>
      have ha : as[i]? = some a := ha
      have hm : ((List.range g.n).map (grp g.p))[i]? = some m := hm
      have hil : i < g.n := by
        have h1 := (List.getElem?_eq_some_iff.mp ha).1
        omega
      rw [List.getElem?_map, List.getElem?_range hil] at hm
      have em : grp g.p i = m := Option.some.inj hm
      rw [← em]
      exact s6 _ _ (has i a ha).1
  have hac : ∀ a ∈ fa :: as, a ≠ c := fun a ha => by
    rcases List.mem_cons.mp ha with rfl | ha
    · exact hfac
    · obtain ⟨j, hj⟩ := List.getElem?_of_mem ha
      exact (ne_of_none (s4 _ _ hc3) (has j a hj).2.1).symm
  have hlows : ∀ m ∈ g.f :: (List.range g.n).map (grp g.p), (∀ x ∈ m, x < e.lets.length) ∧ m.length ≤ 448 := fun m hm => by
    rcases List.mem_cons.mp hm with rfl | hm
    · exact ⟨hlow.1, by omega⟩
    · obtain ⟨p, _, rfl⟩ := List.mem_map.mp hm
      exact ⟨hlow.2 p, Nat.le_trans (len_grp _ _) b5⟩
  have hgl : (g.f :: (List.range g.n).map (grp g.p)).length ≤ 9 := by rw [List.length_cons, List.length_map, List.length_range]; omega
  have hS16 : Same H H6 := s1.trans (s14.trans (s5.trans s6))
  have hHc : H c = none := s1.free (s2.free hc)
  have hall : ∀ (gs : List (List Nat)), (∀ g ∈ gs, g.length ≤ 448) → (gs.flatMap (prs e.lets)).length ≤ gs.length * 200704 := by
    intro gs
    induction gs with
    | nil => intro _; exact Nat.zero_le _
    | cons g gs ih =>
      intro hg
      have h1 := len_prs e.lets g
      have h2 := hg g List.mem_cons_self
      have h3 := Nat.mul_le_mul h2 h2
      have h4 := ih fun g' hg' => hg g' (List.mem_cons_of_mem _ hg')
      rw [List.flatMap_cons, List.length_append, List.length_cons, Nat.succ_mul]
      omega
  have hconf := fnd_confl hx (f := g.f) (fo := (List.range g.n).map (grp g.p)) (fun x => by rw [al.f]) (by rw [List.length_map, List.length_range, b1]) (fun p m hm x => by
    have hp : p < g.n := by
      have h1 := (List.getElem?_eq_some_iff.mp hm).1
      rw [List.length_map, List.length_range] at h1
      exact h1
    rw [List.getElem?_map, List.getElem?_range hp] at hm
    have em : grp g.p p = m := Option.some.inj hm
    rw [← em, mem_grp]
    exact al.p _)
  generalize g.f :: (List.range g.n).map (grp g.p) = gs at hR6 hlows hgl hconf ⊢
  refine ⟨cG, _, rfl, hcG6, fun K3 => ?_⟩
  refine for_by (wk_lst fun H7 (s7 : SameX c H6 H7) => s7 _ _ hcGc hcG6)
    (fun i σ H7 => ∃ (y8 y9 : Option V) (zs : List V), σ = [some v, some (vN g.n), some (.bl g.e), some (.ref fa), some (.ref la), some (.ref pa), some (.str (sOf e.lets)), some (.ref c), y8, y9, none, none] ∧ SameX c H6 H7 ∧ H7 c = some (.lst zs) ∧ Paired (fun q v => rPr q v H7) ((gs.take i).flatMap (prs e.lets)) zs)
    (fun i σ H7 ⟨_, _, _, _, h, _⟩ => h) ⟨none, none, [], rfl, SameX.refl _ _, hc6, .nil⟩ ?_ ?_
  · rintro i x σ H7 hi ⟨y8, y9, zs, rfl, s7, hzs, hpz⟩
    obtain ⟨a, ha, rfl⟩ : ∃ a, (fa :: as)[i]? = some a ∧ x = .ref a := by
      rw [List.getElem?_map] at hi
      cases h : (fa :: as)[i]? with
      | none => rw [h] at hi; cases hi
      | some a => rw [h] at hi; exact ⟨a, rfl, (Option.some.inj hi).symm⟩
    have hil : i < gs.length := by
      have h1 := (List.getElem?_eq_some_iff.mp ha).1
      rw [hR6.1] at h1
      exact h1
    have hm : gs[i]? = some gs[i] := List.getElem?_eq_getElem hil
    have hgm := hlows gs[i] (List.getElem_mem hil)
    have ham := hac a (List.mem_of_getElem? ha)
    have hA6 := hR6.2 i a _ ha hm
    have htk := take_flat (prs e.lets) hm
    have hpre : ((gs.take i).flatMap (prs e.lets)).length ≤ 9 * 200704 := Nat.le_trans (hall _ fun g' hg' => (hlows g' (List.mem_of_mem_take hg')).2) (Nat.mul_le_mul_right _ (by rw [List.length_take]; omega))
    rw [htk]
    generalize gs[i] = m at hA6 hgm ⊢
    refine ⟨_, rfl, a, _, rfl, s7 _ _ ham hA6, fun K4 => ?_⟩
    refine for_by (wk_lst fun H8 (s8 : SameX c H6 H8) => s8 _ _ ham hA6)
      (fun j σ H8 => ∃ (y9 : Option V) (zs : List V), σ = [some v, some (vN g.n), some (.bl g.e), some (.ref fa), some (.ref la), some (.ref pa), some (.str (sOf e.lets)), some (.ref c), some (.ref a), y9, none, none] ∧ SameX c H6 H8 ∧ H8 c = some (.lst zs) ∧
        Paired (fun q v => rPr q v H8) ((gs.take i).flatMap (prs e.lets) ++ (m.take j).flatMap fun a => (m.filter fun b => decide (a < b) && decide (e.lets[a]? = e.lets[b]?)).map (Prod.mk a)) zs)
      (fun j σ H8 ⟨_, _, _, h, _⟩ => h) ⟨y9, zs, rfl, s7, hzs, by rw [List.take_zero]; show Paired _ (_ ++ []) _; rw [List.append_nil]; exact hpz⟩ ?_ ?_
    · rintro j x σ H8 hj ⟨y9, zs, rfl, s8, hzs, hpz⟩
      obtain ⟨one, hone, rfl⟩ := pr_get (nat_pr _) hj
      have h1m : one ∈ m := List.mem_of_getElem? hone
      refine ⟨_, rfl, .inl ⟨rfl, _, SqL.of hzs⟩, _, rfl, a, _, rfl, s8 _ _ ham hA6, fun K5 D5 hD5 => ?_⟩
      have hml := hgm.2
      refine lc_rel (R := fun n v => v = vN n) (l := m) hD5 (wk_lst fun H9 s9 => s9 _ _ (s8 _ _ ham hA6)) (nat_pr _) (by omega) (fun b => decide (one < b) && decide (e.lets[one]? = e.lets[b]?)) (fun o v H9 => rPr (one, o) v H9) (fun _ _ _ _ s r => rPr_ts (TS.of s) r) (fun _ _ _ _ _ h r => rPr_ts (TS.upd h) r) (fun o u H9 ho hRo s9 hDl Ky Kn k1 k0 => ?_) (fun H9 ys s9 hys hpy => ?_)
      · subst hRo
        have l1 := hgm.1 one h1m
        have l2 := hgm.1 o ho
        refine ⟨rfl, _, rfl, _, rfl, _, _, rfl, rfl, _, rfl, ?_⟩
        rw [int_lt]
        by_cases hcb : one < o
        · rw [decide_eq_true hcb]
          refine iteT ⟨_, rfl, _, rfl, _, one, cd (e.lets[one]'l1), rfl, rfl, hls, ?_, _, rfl, _, rfl, _, o, cd (e.lets[o]'l2), rfl, rfl, hls, ?_, rfl, _, rfl, ?_⟩
          · rw [sOf_get, List.getElem?_eq_getElem l1]; rfl
          · rw [sOf_get, List.getElem?_eq_getElem l2]; rfl
          · by_cases hE : e.lets[one]'l1 = e.lets[o]'l2
            · have e2 : decide (V.str ⟨#[cd (e.lets[one]'l1)]⟩ = V.str ⟨#[cd (e.lets[o]'l2)]⟩) = true := decide_eq_true (by rw [hE])
              rw [e2]
              refine iteT ⟨_, rfl, _, rfl, by show 2 ≤ sizeLine; decide, fun z hz => k1 _ _ ?_ (same_new hz _) ⟨z, rfl, upd_same⟩⟩
              rw [decide_eq_true hcb, List.getElem?_eq_getElem l1, List.getElem?_eq_getElem l2, hE]
              simp
            · have e2 : decide (V.str ⟨#[cd (e.lets[one]'l1)]⟩ = V.str ⟨#[cd (e.lets[o]'l2)]⟩) = false := decide_eq_false fun z => hE (cd_inj (one_inj (V.str.inj z)))
              rw [e2]
              refine iteF (k0 _ ?_ (Same.refl _))
              rw [List.getElem?_eq_getElem l1, List.getElem?_eq_getElem l2]
              simp [hE]
        · rw [decide_eq_false hcb]
          refine iteF (iteF (k0 _ ?_ (Same.refl _)))
          rw [decide_eq_false hcb]
          rfl
      · have hyl := hpy.length
        have hfl := List.length_filter_le (fun b => decide (one < b) && decide (e.lets[one]? = e.lets[b]?)) m
        have hzl := hpz.length
        rw [List.length_append] at hzl
        have hin : ((m.take j).flatMap fun a => (m.filter fun b => decide (a < b) && decide (e.lets[a]? = e.lets[b]?)).map (Prod.mk a)).length ≤ 448 * 448 :=
          Nat.le_trans (len_flat (c := m.length) (fun a => by rw [List.length_map]; exact List.length_filter_le _ _) _) (Nat.mul_le_mul (by rw [List.length_take]; omega) hml)
        have hzs9 := s9 _ _ hzs
        refine ⟨c, D5, zs, ys, rfl, rfl, hzs9, hys, Nat.le_trans (by omega : _ ≤ 3000000) (by decide), ?_⟩
        refine ⟨_, zs ++ ys, rfl, s8.trans ((SameX.of s9).trans SameX.upd), upd_same, ?_⟩
        rw [take_flat _ hone, ← List.append_assoc]
        refine pr_app (pr_imp hpz fun _ _ _ r => rPr_ts ((TS.of s9).trans (TS.upd hzs9)) r) ?_
        have hg2 : ∀ {l : List Nat} {zs' : List V}, Paired (fun o v => rPr (one, o) v H9) l zs' → Paired (fun q v => rPr q v (upd H9 c (.lst (zs ++ ys)))) (l.map (Prod.mk one)) zs' := by
          intro l zs' h
          induction h with
          | nil => exact .nil
          | cons h1 _ ih => exact .cons (rPr_ts (TS.upd hzs9) h1) ih
        exact hg2 hpy
    · rintro σ H8 ⟨y9, zs, rfl, s8, hzs, hpz⟩
      rw [List.length_map, List.take_length] at hpz
      exact ⟨_, y9, zs, rfl, s8, hzs, hpz⟩
  · rintro σ H7 ⟨y8, y9, zs, rfl, s7, hzs, hpz⟩
    rw [List.length_map, hR6.1, List.take_length] at hpz
    have hfl := hall gs fun g' hg' => (hlows g' hg').2
    refine ⟨_, rfl, c, _, rfl, ⟨zs, hzs, hpz⟩, by omega, fun p2 m2 H8 s8 hp2 hnd hmem => ?_⟩
    obtain ⟨rs, hr1, hr2⟩ := hp2
    refine ⟨p2, rs, rfl, hr1, fun x hxm => ?_, fun ys p3 hperm hp3 => ?_⟩
    · obtain ⟨z, _, a, e1, h1⟩ := pr_mem hr2 hxm
      exact ⟨a, z.1, z.2, e1, h1⟩
    · obtain ⟨C, hC, hpC⟩ := pr_perm hperm hr2
      have s9 := same_new hp3 (.lst ys)
      refine q p3 C _ ((s7.same hS16 hHc).trans (s8.trans s9)) ⟨ys, upd_same, pr_imp hpC fun _ _ _ r => rPr_ts (TS.of s9) r⟩ (hC.nodup_iff.mpr hnd) fun z => by rw [hC.mem_iff, hmem, hconf]
end
end K65
end

section
set_option Elab.async false
set_option linter.all false
set_option maxRecDepth 100000
set_option maxHeartbeats 4000000
/-! The law's neighbours and colorings. -/
namespace K65
open PySem L2
open PyProof.Rows (envOfC)

/-- rows all of whose lists are new since H0 -/
def nNear (near : List (List Nat)) (D : Addr) (H0 H : Hp) : Prop := ∃ as : List Addr, H D = some (.lst (as.map V.ref)) ∧ Rows as near H ∧ H0 D = none ∧ ∀ a ∈ as, H0 a = none
theorem nNear.near {near : List (List Nat)} {D : Addr} {H0 H : Hp} (h : nNear near D H0 H) : rNear near D H := by
  obtain ⟨as, h1, h2, _⟩ := h
  exact ⟨as, h1, h2⟩
theorem nNear.mono {near : List (List Nat)} {D s : Addr} {H0 H H' : Hp} (h : nNear near D H0 H) (x : SameX s H H') {o : HO} (hs : H0 s = some o) : nNear near D H0 H' := by
  obtain ⟨as, h1, h2, h3, h4⟩ := h
  exact ⟨as, x _ _ (ne_of_none hs h3).symm h1, ⟨h2.1, fun i a m ha hm => x _ _ (ne_of_none hs (h4 a (List.mem_of_getElem? ha))).symm (h2.2 i a m ha hm)⟩, h3, h4⟩
def spLNear : Sp := fun vs H Q _ => ∃ (e : Ex) (v : V), vs = [v] ∧ rE e v H ∧ ExOk e ∧ ∀ (D : Addr) (near : List (List Nat)) (H' : Hp), Same H H' → nNear near D H H' → NearOk (adjB e) e.lets.length near → (∀ m ∈ near, m.length ≤ 1000) → Q (.ref D) H'
def spCols : Sp := fun vs H Q _ => ∃ (D : Addr) (near : List (List Nat)) (n many : Nat) (A : Nat → Nat → Bool), vs = [.ref D, vN many] ∧ rNear near D H ∧ NearOk A n near ∧ n ≤ 6 ∧ many ≤ 8 ∧ (∀ p o, A p o = true → p ≠ o) ∧ (∀ m ∈ near, m.length ≤ 1000) ∧
  ∀ (c : Addr) (rs : List V) (H' : Hp), Same H H' → H c = none → H' c = some (.lst rs) → Paired (fun r v => rNs r v H') (cols A many n) rs → Q (.ref c) H'
/-- the ones before a place, as the law lists them -/
def grq (ps : List (Nat × Nat)) (p : Nat) : List Nat := (ps.filter fun q => decide (q.2 = p)).map Prod.fst
theorem mem_grq {ps : List (Nat × Nat)} {p x : Nat} : x ∈ grq ps p ↔ (x, p) ∈ ps := by
  unfold grq
  rw [List.mem_map]
  constructor
  · rintro ⟨q, hq, rfl⟩
    obtain ⟨h1, h2⟩ := List.mem_filter.mp hq
    rw [← of_decide_eq_true h2]
    exact h1
  · intro h
    exact ⟨(x, p), List.mem_filter.mpr ⟨h, decide_eq_true rfl⟩, rfl⟩
theorem len_grq (ps : List (Nat × Nat)) (p : Nat) : (grq ps p).length ≤ ps.length := by
  unfold grq
  rw [List.length_map]
  exact List.length_filter_le _ _
theorem len_cols {A : Nat → Nat → Bool} {k : Nat} (hk : k ≤ 8) : ∀ p, (cols A k p).length ≤ 8 ^ p
  | 0 => Nat.le_refl _
  | p + 1 => by
    have h1 := len_cols (A := A) hk p
    have h2 : (level A k (cols A k p)).length ≤ (cols A k p).length * 8 := len_flat (fun row => by
      rw [List.length_map]
      exact Nat.le_trans (List.length_filter_le _ _) (by rw [List.length_range]; exact hk)) _
    show (level A k (cols A k p)).length ≤ _
    rw [Nat.pow_succ]
    exact Nat.le_trans h2 (Nat.mul_le_mul_right _ h1)
theorem okc_all {A : Nat → Nat → Bool} {n : Nat} {near : List (List Nat)} (ok : NearOk A n near) (irr : ∀ p o, A p o = true → p ≠ o) {row m : List Nat} (hm : near[row.length]? = some m) (c : Nat) :
    (m.map fun o => decide (row.length < o) || !decide (row[o]? = some c)).all id = okc A row c := by
  have h := ok.mem _ _ hm
  apply Bool.eq_iff_iff.mpr
  rw [List.all_map, List.all_eq_true, okc_iff]
  constructor
  · intro ha o h1 h2 h3
    have q := ha o ((h o).mpr h2)
    have e1 : decide (row.length < o) = false := decide_eq_false (by omega)
    have e2 : decide (row[o]? = some c) = true := decide_eq_true h3
    have q : (decide (row.length < o) || !decide (row[o]? = some c)) = true := q
    rw [e1, e2] at q
    cases q
  · intro ha o ho
    have h2 := (h o).mp ho
    show (decide (row.length < o) || !decide (row[o]? = some c)) = true
    by_cases h1 : row.length < o
    · rw [decide_eq_true h1]; rfl
    · have h3 : o < row.length := by have := irr _ _ h2; omega
      rw [decide_eq_false (ha o h3 h2), Bool.not_false, Bool.or_true]

section
variable {P : Program} {w : World} {K : PySem.W.Frag} {mg : Str → Option Value} {base : Heap} {k : Nat} {f : Addr} {fd : FuncData}
abbrev s__law_near : Stmt := top 52
theorem sc__law_near : FnScope ["_law_expression", "_law_conflicts_here", "_law_found", "_law_place", "_law_one", "_law_other"] ["_law_expression"] (defScope s__law_near) := ⟨rfl, rfl, rfl, by decide +kernel, rfl, by decide +kernel, by decide +kernel⟩
theorem ok__law_near {ps1 ps2 : List Str} (T : Txt K mg) (F : Fun K "_law_near" "_law_near" s__law_near f fd) (C_law_conflicts : Cd P w K mg base k "_law_conflicts" ps1 spLConf) (C_law_letters : Cd P w K mg base k "_law_letters" ps2 (spLets 7)) :
    FnOk P w K mg base CX0 (k + 1) f fd ["_law_expression"] spLNear := by
  have nd := sc__law_near.nd
  refine F.ok sc__law_near (fun vs H Q E h => ?_) (fun cdv A outer s H vs Q E hr h => ?_)
  · obtain ⟨e, v, rfl, _⟩ := h
    rfl
  obtain ⟨e, v, rfl, hv, hx, q⟩ := h
  have h8 := hx.2.1
  refine ⟨_, (pss_cons (ps_set (i := 1) nd rfl (Or.inl rfl) (pe_cd C_law_conflicts hr (by rfl) (pa_cons (pv 0) pa_nil)))
      (pss_cons (ps_set (i := 2) nd rfl (Or.inl rfl) (pe_lst pa_nil))
      (pss_cons (ps_for PassesOwn.never rfl (pi_range1 (by rfl) T.z_range (pa_cons (pe_callB call_len_str (by rfl) T.z_len (by decide +kernel) (pa_cons (pe_cd C_law_letters hr (by rfl) (pa_cons (pv 0) pa_nil)) pa_nil)) pa_nil)) (pg_name (i := 3) nd rfl (Or.inr rfl)) (pss_one (ps_expr (pe_bm PySem.F.plainAttrs_list PySem.F.slot_list_append PySem.F.type_list_append mt_append (pv 2) (pa_cons (pe_op op_cat (pe_lc (own := [("_law_one", 4), ("_law_other", 5)]) rfl nd (pi_L (pv 1)) (blkOk_by (own := [("_law_one", 4), ("_law_other", 5)]) (by kernel_rfl)) (fun _ _ _ _ _ => pg_U (n := 2) rfl (pgs_cons (pg_name (i := 4) nd rfl (Or.inl rfl)) (pgs_cons (pg_name (i := 5) nd rfl (Or.inl rfl)) pgs_nil))) (fun _ _ _ _ _ => pts_one (pt_cmpR op_eq (pv 5) (pv 3) (nomark _))) (fun _ _ _ _ _ => (pv 4))) (pe_lc (own := [("_law_one", 4), ("_law_other", 5)]) rfl nd (pi_L (pv 1)) (blkOk_by (own := [("_law_one", 4), ("_law_other", 5)]) (by kernel_rfl)) (fun _ _ _ _ _ => pg_U (n := 2) rfl (pgs_cons (pg_name (i := 4) nd rfl (Or.inl rfl)) (pgs_cons (pg_name (i := 5) nd rfl (Or.inl rfl)) pgs_nil))) (fun _ _ _ _ _ => pts_one (pt_cmpR op_eq (pv 4) (pv 3) (nomark _))) (fun _ _ _ _ _ => (pv 5)))) pa_nil)))))
      (pss_one (ps_ret (pv 2)))))), ?_⟩
  refine ⟨_, rfl, e, v, rfl, hv, hx, fun p C H1 s1 hp hCn hCm => ⟨Nat.zero_le _, fun D hD => ?_⟩⟩
  have hC64 : C.length ≤ 64 := pairs_few h8 hCn fun z hz => confl_low hx ((hCm z).mp hz)
  have s2 := same_new hD (.lst [])
  have hD2 : upd H1 D (.lst []) D = some (.lst []) := upd_same
  generalize upd H1 D (.lst []) = H2 at s2 hD2 ⊢
  have hls : (sOf e.lets).length ≤ sizeLine := by rw [sOf_len]; exact Nat.le_trans h8 (by decide)
  have hls8 : (sOf e.lets).length ≤ 8 := by rw [sOf_len]; exact h8
  refine ⟨_, rfl, e, v, 6, none, rfl, rfl, rE_ts (TS.of (s1.trans s2)) _ _ hv, hx.1, h8, fun H3 s3 => ⟨_, rfl, hls, _, rfl, by omega, by omega, ?_⟩⟩
  obtain ⟨qs, hq1, hq2⟩ := hp
  refine for_by (wk_rng (n := (sOf e.lets).length) (S := fun _ => True))
    (fun i σ H4 => ∃ (y3 : Option V) (as : List Addr), σ = [some v, some (.ref p), some (.ref D), y3, none, none] ∧ Same H1 H4 ∧ H4 D = some (.lst (as.map V.ref)) ∧ as.length = i ∧
      ∀ j a, as[j]? = some a → H4 a = some (.lst ((grq C j ++ grp C j).map vN)) ∧ H1 a = none ∧ a ≠ D)
    (fun _ _ _ _ => trivial) ⟨none, [], rfl, s2.trans s3, s3 _ _ hD2, rfl, fun j a h => by simp at h⟩ ?_ ?_
  · rintro i x σ H4 hi ⟨y3, as, rfl, s4, hDs, hlen, has⟩
    obtain ⟨i', hi', rfl⟩ := pr_get (nat_pr _) hi
    have hin : i < (sOf e.lets).length := by
      have h1 := (List.getElem?_eq_some_iff.mp hi).1
      rw [List.length_map, List.length_range] at h1
      exact h1
    have ei : i' = i := by
      rw [List.getElem?_range hin] at hi'
      exact (Option.some.inj hi').symm
    subst ei
    refine ⟨_, rfl, .inl ⟨rfl, _, SqL.of hDs⟩, _, rfl, p, qs, rfl, s4 _ _ hq1, fun K1 D1 hD1 => ?_⟩
    refine lc_fun (R := fun q v => rPr q v H1) (l := C) hD1 (wk_lst fun H6 s6 => s6 _ _ (s4 _ _ hq1)) hq2 (by omega) (fun q => decide (q.2 = i')) (fun q => vN q.1) (fun q u H6 hqm hR s6 Ky Kn k1 k0 => ?_) (fun H6 s6 hD6 => ?_)
    · obtain ⟨a, rfl, ha⟩ := rPr_ts (TS.of (s4.trans s6)) hR
      refine ⟨a, _, rfl, ha, rfl, _, _, rfl, _, _, rfl, rfl, rfl, _, rfl, _, rfl, rfl, _, rfl, ?_⟩
      rw [int_eq]
      by_cases h : q.2 = i'
      · rw [decide_eq_true h]
        exact iteT ⟨_, rfl, k1 _ (decide_eq_true h) (Same.refl _)⟩
      · rw [decide_eq_false h]
        exact iteF (k0 _ (decide_eq_false h) (Same.refl _))
    have s46 := s4.trans s6
    refine ⟨_, rfl, p, qs, rfl, s46 _ _ hq1, fun K2 D2 hD2 => ?_⟩
    refine lc_fun (R := fun q v => rPr q v H1) (l := C) hD2 (wk_lst fun H7 s7 => s7 _ _ (s46 _ _ hq1)) hq2 (by omega) (fun q => decide (q.1 = i')) (fun q => vN q.2) (fun q u H7 hqm hR s7 Ky Kn k1 k0 => ?_) (fun H7 s7 hD7 => ?_)
    · obtain ⟨a, rfl, ha⟩ := rPr_ts (TS.of (s46.trans s7)) hR
      refine ⟨a, _, rfl, ha, rfl, _, _, rfl, _, _, rfl, rfl, rfl, _, rfl, _, rfl, rfl, _, rfl, ?_⟩
      rw [int_eq]
      by_cases h : q.1 = i'
      · rw [decide_eq_true h]
        exact iteT ⟨_, rfl, k1 _ (decide_eq_true h) (Same.refl _)⟩
      · rw [decide_eq_false h]
        exact iteF (k0 _ (decide_eq_false h) (Same.refl _))
    have l1 := len_grq C i'
    have l2 := len_grp C i'
    have hE1 : H7 D1 = some (.lst ((grq C i').map vN)) := by
      rw [s7 _ _ hD6]
      unfold grq
      rw [List.map_map]
      rfl
    have hE2 : H7 D2 = some (.lst ((grp C i').map vN)) := by
      rw [hD7]
      unfold grp
      rw [List.map_map]
      rfl
    refine ⟨D1, D2, _, _, rfl, rfl, hE1, hE2, by rw [List.length_map, List.length_map]; exact Nat.le_trans (by omega : _ ≤ 128) (by decide), fun cG hcG => ?_⟩
    have s8 := same_new hcG (.lst ((grq C i').map vN ++ (grp C i').map vN))
    have hcG8 : upd H7 cG (.lst ((grq C i').map vN ++ (grp C i').map vN)) cG = some (.lst ((grq C i' ++ grp C i').map vN)) := by rw [upd_same, List.map_append]
    generalize upd H7 cG (.lst ((grq C i').map vN ++ (grp C i').map vN)) = H8 at s8 hcG8 ⊢
    have s67 := s6.trans s7
    have hDs7 := s67 _ _ hDs
    have hcD : cG ≠ D := (ne_of_none hDs7 hcG).symm
    refine ⟨D, _, _, rfl, rfl, s8 _ _ hDs7, by rw [List.length_map, hlen]; exact Nat.lt_of_lt_of_le (by omega : i' < 9) (by decide), ?_⟩
    refine ⟨_, as ++ [cG], rfl, same_mut (s46.trans (s7.trans s8)) hD, by rw [upd_same, List.map_append]; rfl, by rw [List.length_append, hlen]; rfl, fun j a ha => ?_⟩
    by_cases hj : j < as.length
    · rw [List.getElem?_append_left hj] at ha
      obtain ⟨h1, h2, h3⟩ := has j a ha
      exact ⟨by rw [upd_ne h3]; exact s8 _ _ (s67 _ _ h1), h2, h3⟩
    · rw [List.getElem?_append_right (by omega)] at ha
      have hj0 : j - as.length = 0 := by
        have h1 := (List.getElem?_eq_some_iff.mp ha).1
        rw [List.length_singleton] at h1
        omega
      rw [hj0] at ha
      have ea : cG = a := Option.some.inj ha
      have ej : j = i' := by omega
      subst ea ej
      exact ⟨by rw [upd_ne hcD]; exact hcG8, (s46.trans s7).free hcG, hcD⟩
  · rintro σ H4 ⟨y3, as, rfl, s4, hDs, hlen, has⟩
    rw [List.length_map, List.length_range, sOf_len] at hlen
    refine ⟨_, rfl, q D ((List.range e.lets.length).map fun j => grq C j ++ grp C j) H4 (s1.trans s4) ⟨as, hDs, ⟨by rw [List.length_map, List.length_range, hlen], fun i a m ha hm => ?_⟩, s1.free hD, fun a ha => ?_⟩ ⟨by rw [List.length_map, List.length_range], fun p m hm o => ?_⟩ fun m hm => ?_⟩
    · have hil : i < e.lets.length := by
        have h1 := (List.getElem?_eq_some_iff.mp ha).1
        omega
      rw [List.getElem?_map, List.getElem?_range hil] at hm
      have em : grq C i ++ grp C i = m := Option.some.inj hm
      rw [← em]
      exact (has i a ha).1
    · obtain ⟨j, hj⟩ := List.getElem?_of_mem ha
      exact s1.free (has j a hj).2.1
    · have hil : p < e.lets.length := by
        have h1 := (List.getElem?_eq_some_iff.mp hm).1
        rw [List.length_map, List.length_range] at h1
        exact h1
      rw [List.getElem?_map, List.getElem?_range hil] at hm
      have em : grq C p ++ grp C p = m := Option.some.inj hm
      rw [← em, List.mem_append, mem_grq, mem_grp, adjB_iff, hCm, hCm]
      exact or_comm
    · obtain ⟨j, _, rfl⟩ := List.mem_map.mp hm
      have l1 := len_grq C j
      have l2 := len_grp C j
      rw [List.length_append]
      omega

abbrev s__law_colorings : Stmt := top 53
theorem sc__law_colorings : FnScope ["_law_near_here", "_law_many", "_law_rows", "_law_place", "_law_longer", "_law_row", "_law_color", "_law_other"] ["_law_near_here", "_law_many"] (defScope s__law_colorings) := ⟨rfl, rfl, rfl, by decide +kernel, rfl, by decide +kernel, by decide +kernel⟩
theorem ok__law_colorings (T : Txt K mg) (F : Fun K "_law_colorings" "_law_colorings" s__law_colorings f fd) : FnOk P w K mg base CX0 (k + 1) f fd ["_law_near_here", "_law_many"] spCols := by
  have nd := sc__law_colorings.nd
  refine F.ok sc__law_colorings (fun vs H Q E h => ?_) (fun cdv A outer s H vs Q E hr h => ?_)
  · obtain ⟨D, near, n, many, A, rfl, _⟩ := h
    rfl
  obtain ⟨D, near, n, many, G, rfl, ⟨as, hDs, hR⟩, ok, hn6, hm8, irr, hrow, q⟩ := h
  refine ⟨_, (pss_cons (ps_set (i := 2) nd rfl (Or.inl rfl) (pe_lst (pa_cons (pe_tup pa_nil) pa_nil)))
      (pss_cons (ps_for PassesOwn.never rfl (pi_range1 (by rfl) T.z_range (pa_cons (pe_callB call_len2 (by rfl) T.z_len (by decide +kernel) (pa_cons (pv 0) pa_nil)) pa_nil)) (pg_name (i := 3) nd rfl (Or.inr rfl)) (pss_cons (ps_set (i := 4) nd rfl (Or.inl rfl) (pe_lst pa_nil))
        (pss_cons (ps_for PassesOwn.never rfl (pi_L (pv 2)) (pg_name (i := 5) nd rfl (Or.inr rfl)) (pss_one (ps_expr (pe_bm PySem.F.plainAttrs_list PySem.F.slot_list_extend PySem.F.type_list_extend mt_extend (pv 4) (pa_cons (pe_lc (own := [("_law_color", 6)]) (g := gName 6) rfl nd (pi_range1 (by rfl) T.z_range (pa_cons (pv 1) pa_nil)) (blkOk_by (own := [("_law_color", 6)]) (by kernel_rfl)) (fun _ _ _ _ _ => pg_name (i := 6) nd rfl (Or.inr rfl)) (fun _ _ _ _ _ => pts_one (pt_val (pe_callB (cr_all2 rfl) (by rfl) T.z_all (by decide +kernel) (pa_cons (pe_lc (own := [("_law_other", 7)]) (g := gName 7) (tt := tYes) rfl nd (pi_L (pe_ix it_list (pv 0) (pv 3) (fun _ _ => rfl))) (blkOk_by (own := [("_law_other", 7)]) (by kernel_rfl)) (fun _ _ _ _ _ => pg_name (i := 7) nd rfl (Or.inl rfl)) (fun _ _ _ _ _ => pts_nil) (fun _ _ _ _ _ => (pe_or (pe_cmpR op_gt (pv 7) (pv 3) (nomark _)) (pe_one (pe_cmpR op_ne (pe_ix it_tup (pv 5) (pv 7) (fun _ _ => rfl)) (pv 6) (nomark _)))))) pa_nil)))) (fun _ _ _ _ _ => (pe_op op_cat2 (pv 5) (pe_tup (pa_cons (pv 6) pa_nil))))) pa_nil)))))
        (pss_one (ps_set (i := 2) nd rfl (Or.inl rfl) (pv 4))))))
      (pss_one (ps_ret (pv 2))))), ?_⟩
  have eN : (as.map V.ref).length = n := by rw [List.length_map, hR.1, ok.len]
  have p86 : (8 : Nat) ^ 6 = 262144 := by decide
  refine ⟨Nat.zero_le _, fun t0 ht0 => ⟨by show 1 ≤ sizeLine; decide, fun c0 hc0 => ?_⟩⟩
  have s1 := same_new ht0 (.tup [])
  have h1 : upd H t0 (.tup []) t0 = some (.tup (([] : List Nat).map vN)) := upd_same
  generalize upd H t0 (.tup []) = H1 at s1 h1 hc0 ⊢
  have s2 := same_new hc0 (.lst [.ref t0])
  have h2 : upd H1 c0 (.lst [.ref t0]) c0 = some (.lst [.ref t0]) := upd_same
  generalize upd H1 c0 (.lst [.ref t0]) = H2 at s2 h2 ⊢
  have s02 := s1.trans s2
  refine ⟨_, rfl, D, _, rfl, .inl (s02 _ _ hDs), _, rfl, by rw [eN]; omega, by rw [eN]; omega, ?_⟩
  refine for_by (wk_rng (n := (as.map V.ref).length) (S := fun _ => True))
    (fun i σ H3 => ∃ (c : Addr) (rs : List V) (y3 y4 y5 : Option V), σ = [some (.ref D), some (vN many), some (.ref c), y3, y4, y5, none, none] ∧ Same H H3 ∧ H c = none ∧ H3 c = some (.lst rs) ∧ Paired (fun r v => rNs r v H3) (cols G many i) rs)
    (fun _ _ _ _ => trivial) ⟨c0, _, none, none, none, rfl, s02, s1.free hc0, h2, .cons ⟨t0, rfl, s2 _ _ h1⟩ .nil⟩ ?_ ?_
  · rintro i x σ H3 hi ⟨c, rs, y3, y4, y5, rfl, s3, hc, hcs, hpr⟩
    obtain ⟨i', hi', rfl⟩ := pr_get (nat_pr _) hi
    have hin : i < n := by
      have h1 := (List.getElem?_eq_some_iff.mp hi).1
      rw [List.length_map, List.length_range, eN] at h1
      exact h1
    have ei : i' = i := by
      rw [eN, List.getElem?_range hin] at hi'
      exact (Option.some.inj hi').symm
    subst ei
    refine ⟨Nat.zero_le _, fun c2 hc2 => ?_⟩
    have s4 := same_new hc2 (.lst [])
    have h4 : upd H3 c2 (.lst []) c2 = some (.lst []) := upd_same
    generalize upd H3 c2 (.lst []) = H4 at s4 h4 ⊢
    have hlen := len_cols (A := G) hm8 i'
    have hpow : (8 : Nat) ^ i' ≤ 32768 := by
      have h1 : (8 : Nat) ^ i' ≤ 8 ^ 5 := Nat.pow_le_pow_right (by decide) (by omega)
      exact Nat.le_trans h1 (by decide)
    refine ⟨_, rfl, c, rs, rfl, s4 _ _ hcs, fun K1 => ?_⟩
    refine for_by (wk_lst fun H5 (s5 : Same H3 H5) => s5 _ _ hcs)
      (fun j σ H5 => ∃ (y5 : Option V) (zs : List V), σ = [some (.ref D), some (vN many), some (.ref c), some (vN i'), some (.ref c2), y5, none, none] ∧ Same H3 H5 ∧ H5 c2 = some (.lst zs) ∧ Paired (fun r v => rNs r v H5) (level G many ((cols G many i').take j)) zs)
      (fun _ _ _ ⟨_, _, _, h, _⟩ => h) ⟨y5, [], rfl, s4, h4, .nil⟩ ?_ ?_
    · rintro j x σ H5 hj ⟨y5, zs, rfl, s5, hzs, hpz⟩
      obtain ⟨row, hrowj, hRx⟩ := pr_get hpr hj
      obtain ⟨ra, rfl, hra⟩ := rNs_ts (TS.of s5) hRx
      have hrl : row.length = i' := ((mem_cols G).mp (List.mem_of_getElem? hrowj)).1
      have hg : near[row.length]? = some (near[row.length]'(by rw [hrl, ok.len]; exact hin)) := List.getElem?_eq_getElem _
      obtain ⟨na, nm, hna, hnm, hnA⟩ := rNear_get hDs hR (i := i') (by rw [ok.len]; exact hin)
      have hnm' : near[row.length]? = some nm := by rw [hrl]; exact hnm
      have hnml := hrow nm (List.mem_of_getElem? hnm)
      have hok := okc_all ok irr hnm'
      have s05 := s3.trans s5
      refine ⟨_, rfl, .inl ⟨rfl, _, SqL.of hzs⟩, _, rfl, _, rfl, by omega, by omega, fun D1 hD1 => ?_⟩
      refine lc_rel (R := fun n v => v = vN n) (l := List.range many) hD1 (wk_rng (n := many)) (nat_pr _) (by rw [List.length_range]; omega) (okc G row) (fun o v H9 => rNs (row ++ [o]) v H9) (fun _ _ _ _ s r => rNs_ts (TS.of s) r) (fun _ _ _ _ _ h r => rNs_ts (TS.upd h) r) (fun o u H6 ho hRo s6 hDl Ky Kn k1 k0 => ?_) (fun H6 ys s6 hys hpy => ?_)
      · subst hRo
        have s06 := s05.trans s6
        refine ⟨rfl, _, rfl, _, rfl, D, _, i', .ref na, rfl, rfl, s06 _ _ hDs, hna, na, _, rfl, s06 _ _ hnA, fun K2 D2 hD2 => ?_⟩
        refine lc_fun (R := fun n v => v = vN n) (l := nm) hD2 (wk_lst fun H7 s7 => s7 _ _ (s06 _ _ hnA)) (nat_pr _) (by omega) (fun _ => true) (fun z => .bl (decide (row.length < z) || !decide (row[z]? = some o))) (fun z u H7 hz hRz s7 Ky2 Kn2 g1 _ => ?_) (fun H7 s7 hD7 => ?_)
        · subst hRz
          have q1 : Ky2 (.bl (decide (row.length < z) || !decide (row[z]? = some o))) H7 := g1 _ rfl (Same.refl _)
          refine ⟨rfl, yesT (iteT ⟨_, rfl, _, rfl, _, _, rfl, rfl, _, rfl, ?_⟩)⟩
          rw [int_lt, ← hrl]
          by_cases hlt : row.length < z
          · rw [decide_eq_true hlt] at q1 ⊢
            exact iteT q1
          · rw [decide_eq_false hlt] at q1 ⊢
            have hzl : z < row.length := by
              have := irr _ _ ((ok.mem _ _ hnm' z).mp hz)
              omega
            have hgz : row[z]? = some row[z] := List.getElem?_eq_getElem hzl
            refine iteF ⟨_, rfl, _, rfl, ra, _, z, vN row[z], rfl, rfl, s7 _ _ (s6 _ _ hra), (by rw [List.getElem?_map, hgz]; rfl), _, rfl, rfl, ?_⟩
            have e1 : decide (vN row[z] = vN o) = decide (row[z]? = some o) := by
              rw [int_eq, hgz]
              exact decide_eq_decide.mpr ⟨fun z => by rw [z], fun z => Option.some.inj z⟩
            rw [e1]
            exact q1
        · rw [filter_yes] at hD7
          have e5 : nm.map (fun z => V.bl (decide (row.length < z) || !decide (row[z]? = some o))) = (nm.map fun z => decide (row.length < z) || !decide (row[z]? = some o)).map V.bl := by rw [List.map_map]; rfl
          rw [e5] at hD7
          refine ⟨D2, _, rfl, hD7, _, rfl, ?_⟩
          rw [hok o]
          cases hoo : okc G row o with
          | true =>
            refine iteT ⟨_, rfl, _, rfl, by show 1 ≤ sizeLine; decide, fun t ht => ?_⟩
            have s8 := same_new ht (.tup [vN o])
            have ht8 : upd H7 t (.tup [vN o]) t = some (.tup [vN o]) := upd_same
            generalize upd H7 t (.tup [vN o]) = H8 at s8 ht8 ⊢
            have hra8 := s8 _ _ (s7 _ _ (s6 _ _ hra))
            refine ⟨ra, t, _, _, rfl, rfl, hra8, ht8, by rw [List.length_map, hrl]; exact Nat.le_trans (by show i' + 1 ≤ 8; omega) (by decide), ?_⟩
            exact fun r H9 s9 hr9 => k1 _ _ hoo (s7.trans (s8.trans s9)) ⟨r, rfl, by rw [hr9, List.map_append]; rfl⟩
          | false => exact iteF (k0 _ hoo s7)
      · have hzl := hpz.length
        have hyl := hpy.length
        have hll : (level G many ((cols G many i').take j)).length ≤ ((cols G many i').take j).length * 8 := len_flat (fun row => by
          rw [List.length_map]
          exact Nat.le_trans (List.length_filter_le _ _) (by rw [List.length_range]; exact hm8)) _
        have htl : ((cols G many i').take j).length ≤ 32768 := Nat.le_trans (by rw [List.length_take]; omega) (Nat.le_trans hlen hpow)
        have hfl : ((List.range many).filter (okc G row)).length ≤ 8 := Nat.le_trans (List.length_filter_le _ _) (by rw [List.length_range]; exact hm8)
        have hzs6 := s6 _ _ hzs
        refine ⟨c2, D1, zs, ys, rfl, rfl, hzs6, hys, Nat.le_trans (by omega : _ ≤ 300000) (by decide), ?_⟩
        refine ⟨_, zs ++ ys, rfl, same_mut (s5.trans s6) hc2, upd_same, ?_⟩
        have e1 : level G many ((cols G many i').take (j + 1)) = level G many ((cols G many i').take j) ++ ((List.range many).filter (okc G row)).map fun c => row ++ [c] := by
          unfold level
          rw [take_flat _ hrowj]
        rw [e1]
        refine pr_app (pr_imp hpz fun _ _ _ r => rNs_ts ((TS.of s6).trans (TS.upd hzs6)) r) ?_
        have hg2 : ∀ {l : List Nat} {zs' : List V}, Paired (fun o v => rNs (row ++ [o]) v H6) l zs' → Paired (fun q v => rNs q v (upd H6 c2 (.lst (zs ++ ys)))) (l.map fun c => row ++ [c]) zs' := by
          intro l zs' h
          induction h with
          | nil => exact .nil
          | cons h1 _ ih => exact .cons (rNs_ts (TS.upd hzs6) h1) ih
        exact hg2 hpy
    · rintro σ H5 ⟨y5, zs, rfl, s5, hzs, hpz⟩
      rw [← hpr.length, List.take_length] at hpz
      exact ⟨_, rfl, c2, zs, _, _, _, rfl, s3.trans s5, s3.free hc2, hzs, hpz⟩
  · rintro σ H3 ⟨c, rs, y3, y4, y5, rfl, s3, hc, hcs, hpr⟩
    rw [List.length_map, List.length_range, eN] at hpr
    exact ⟨_, rfl, q c rs H3 s3 hc hcs hpr⟩
end
end K65
end

section
set_option Elab.async false
set_option linter.all false
set_option maxRecDepth 100000
set_option maxHeartbeats 4000000
/-! The law's stream of numbers; printed by mk5.py. -/
namespace K65
open PySem L2
open PyProof.Rows (envOfC)

/-- the stream's list stands at s, its script at l -/
structure StreamAt (s l : Addr) (H : Hp) : Prop where
  ex : ∃ (ns : List Int) (c k : Nat), H s = some (.lst [.ref l, vN c, vN k]) ∧ H l = some (.lst (ns.map V.int)) ∧ l ≠ s
theorem StreamAt.same {s l : Addr} {H H' : Hp} (h : StreamAt s l H) (x : Same H H') : StreamAt s l H' := by
  obtain ⟨ns, c, k, h1, h2, h3⟩ := h
  exact ⟨ns, c, k, x _ _ h1, x _ _ h2, h3⟩
theorem StreamAt.at {s l : Addr} {H : Hp} (h : StreamAt s l H) : ∃ l, H s = some (.lst l) := by
  obtain ⟨ns, c, k, h1, _⟩ := h
  exact ⟨_, h1⟩
theorem StreamAt.ne {s l D : Addr} {H : Hp} (h : StreamAt s l H) (hD : H D = none) : D ≠ s ∧ D ≠ l := by
  obtain ⟨ns, c, k, h1, h2, _⟩ := h
  exact ⟨(ne_of_none h1 hD).symm, (ne_of_none h2 hD).symm⟩
theorem StreamAt.mut {s l D : Addr} {H : Hp} {o : HO} (h : StreamAt s l H) (h1 : D ≠ s) (h2 : D ≠ l) : StreamAt s l (upd H D o) := by
  obtain ⟨ns, c, k, e1, e2, h3⟩ := h
  exact ⟨ns, c, k, by rw [upd_ne h1.symm]; exact e1, by rw [upd_ne h2.symm]; exact e2, h3⟩
theorem StreamAt.ts {s l : Addr} {H H' : Hp} (h : StreamAt s l H) (x : SameX s H H') : TS H H' := by
  obtain ⟨l, h1⟩ := h.at
  exact x.ts h1
theorem SameX.free {s l a : Addr} {H H' : Hp} (x : SameX s H H') (h : StreamAt s l H') (e : H' a = none) : H a = none := by
  cases e1 : H a with
  | none => rfl
  | some o =>
    rw [x a o (h.ne e).1 e1] at e
    cases e
theorem SameX.mut {s a : Addr} {H H' : Hp} {o : HO} (x : SameX s H H') (e : H a = none) : SameX s H (L2.upd H' a o) := fun b u n h => by
  rw [upd_ne (ne_of_none h e)]
  exact x b u n h
def spStream (K : PySem.W.Frag) : Sp := fun vs H Q _ => ∃ (a : Addr) (ns : List Int), vs = [.ref a] ∧ SqL K H a (ns.map V.int) ∧ ∀ (s l : Addr) (H' : Hp), Same H H' → StreamAt s l H' → Q (.ref s) H'
def spNext : Sp := fun vs H Q _ => ∃ (s l : Addr) (m : Nat), vs = [.ref s, vN m] ∧ StreamAt s l H ∧ 0 < m ∧ m < 1073741824 ∧ ∀ (d : Nat) (H' : Hp), d < m → SameX s H H' → StreamAt s l H' → Q (vN d) H'
def spPick : Sp := fun vs H Q _ => ∃ (s l a : Addr) (xs : List V), vs = [.ref s, .ref a] ∧ StreamAt s l H ∧ H a = some (.lst xs) ∧ a ≠ s ∧ 0 < xs.length ∧ xs.length < 1073741824 ∧ ∀ (v : V) (H' : Hp), v ∈ xs → SameX s H H' → StreamAt s l H' → Q v H'
theorem nn_mod (x : Int) : ∃ r : Nat, x % 2147483647 = (r : Int) := Int.eq_ofNat_of_zero_le (Int.emod_nonneg x (by decide))
theorem nn_sum (t r : Nat) : (t : Int) * 65537 + (r : Int) = ((t * 65537 + r : Nat) : Int) := by omega
theorem nn_abs (i : Int) : (if i < 0 then -i else i) = (i.natAbs : Int) := by
  split <;> omega
theorem if_both {c : Bool} {p q : Prop} (h1 : p) (h2 : q) : if c = true then p else q := by
  cases c
  · exact h2
  · exact h1
theorem cpow18 : CPow 10 18 := by
  unfold CPow
  decide
theorem lt_pow {σ : St} {H : Hp} {c : Nat} {Kb : Bool → Hp → Prop} (h : σ[3]? = some (some (vN c))) (k : ∀ d, Kb d H) :
    tTest (tOp (rI0 fun i j => V.bl (decide (i < j))) (tVar 3) (tOp (rI CPow fun i j => V.int (i ^ j.toNat)) (tC (V.int 10)) (tC (V.int 18)))) σ H Kb :=
  ⟨_, h, _, _, rfl, rfl, cpow18, _, _, rfl, rfl, _, rfl, k _⟩

section
variable {P : Program} {w : World} {K : PySem.W.Frag} {mg : Str → Option Value} {base : Heap} {k : Nat} {f : Addr} {fd : FuncData}
abbrev s__law_stream : Stmt := top 39
theorem sc__law_stream : FnScope ["_law_script"] ["_law_script"] (defScope s__law_stream) := ⟨rfl, rfl, rfl, by decide +kernel, rfl, by decide +kernel, by decide +kernel⟩
theorem ok__law_stream (T : Txt K mg) (F : Fun K "_law_stream" "_law_stream" s__law_stream f fd) : FnOk P w K mg base CX0 (k + 1) f fd ["_law_script"] (spStream K) := by
  have nd := sc__law_stream.nd
  refine F.ok sc__law_stream (fun vs H Q E h => ?_) (fun cdv A outer s H vs Q E hr h => ?_)
  · obtain ⟨a, ns, rfl, _⟩ := h
    rfl
  obtain ⟨a, ns, rfl, ha, q⟩ := h
  refine ⟨_, (pss_one (ps_ret (pe_lst (pa_cons (pe_callTy call_list_of (by rfl) T.z_list (by decide +kernel) (pa_cons (pv 0) pa_nil)) (pa_cons pe_int (pa_cons pe_int pa_nil)))))), ?_⟩
  refine ⟨_, rfl, a, _, rfl, .inl ha, fun l hl => ⟨by show 3 ≤ sizeLine; decide, fun s hs => ?_⟩⟩
  have s1 := same_new hl (.lst (ns.map V.int))
  have h1 : upd H l (.lst (ns.map V.int)) l = _ := upd_same
  generalize upd H l (.lst (ns.map V.int)) = H1 at s1 h1 hs ⊢
  have s2 := same_new hs (.lst [.ref l, .int 0, .int 0])
  exact q s l _ (s1.trans s2) ⟨ns, 0, 0, upd_same, s2 _ _ h1, ne_of_none h1 hs⟩

abbrev s__law_next : Stmt := top 40
theorem sc__law_next : FnScope ["_law_stream_here", "_law_many", "_law_k", "_law_cell", "_law_digit"] ["_law_stream_here", "_law_many"] (defScope s__law_next) := ⟨rfl, rfl, rfl, by decide +kernel, rfl, by decide +kernel, by decide +kernel⟩
theorem ok__law_next (T : Txt K mg) (F : Fun K "_law_next" "_law_next" s__law_next f fd) : FnOk P w K mg base CX0 (k + 1) f fd ["_law_stream_here", "_law_many"] spNext := by
  have nd := sc__law_next.nd
  refine F.ok sc__law_next (fun vs H Q E h => ?_) (fun cdv A outer s H vs Q E hr h => ?_)
  · obtain ⟨s, l, m, rfl, _⟩ := h
    rfl
  obtain ⟨s, l, m, rfl, ⟨ns, c, n, hs, hl, hls⟩, hm0, hm1, q⟩ := h
  refine ⟨_, (pss_cons (ps_if (pt_cmpR op_eq (pe_ix it_list (pv 0) pe_int (fun _ _ => rfl)) pe_int (nomark _)) (pss_cons (ps_set (i := 2) nd rfl (Or.inl rfl) (pe_ix it_list (pv 0) pe_int (fun _ _ => rfl)))
        (pss_cons (ps_set (i := 3) nd rfl (Or.inl rfl) (pe_op op_add pe_int (pv 2)))
        (pss_cons (ps_if (pt_cmpR op_lt (pv 2) (pe_callB call_len2 (by rfl) T.z_len (by decide +kernel) (pa_cons (pe_ix it_list (pv 0) pe_int (fun _ _ => rfl)) pa_nil)) (nomark _)) (pss_one (ps_set (i := 3) nd rfl (Or.inl rfl) (pe_callB call_abs (by rfl) T.z_abs (by decide +kernel) (pa_cons (pe_ix it_list (pe_ix it_list (pv 0) pe_int (fun _ _ => rfl)) (pv 2) (fun _ _ => rfl)) pa_nil)))) pss_nil)
        (pss_cons (ps_if (pt_cmpR op_lt (pv 3) (pe_op op_pow pe_int pe_int) (nomark _)) (pss_cons (ps_set (i := 3) nd rfl (Or.inl rfl) (pe_op op_mod (pe_callTy call_int1 (by rfl) T.z_int (by decide +kernel) (pa_cons (pe_op op_add (pe_op op_add (pe_op op_mul (pv 3) pe_int) (pe_op op_mul (pv 2) pe_int)) pe_int) pa_nil)) pe_int))
          (pss_one (ps_set (i := 3) nd rfl (Or.inl rfl) (pe_op op_add (pe_op op_mul (pe_op op_mod (pe_callTy call_int1 (by rfl) T.z_int (by decide +kernel) (pa_cons (pe_op op_add (pe_op op_mul (pv 3) pe_int) pe_int) pa_nil)) pe_int) pe_int) (pv 3))))) pss_nil)
        (pss_cons (ps_asg (pv 3) (pg_sub (pv 0) pe_int set_list))
        (pss_one (ps_asg (pe_op op_add (pv 2) pe_int) (pg_sub (pv 0) pe_int set_list)))))))) pss_nil)
      (pss_cons (ps_set (i := 4) nd rfl (Or.inl rfl) (pe_op op_mod (pe_callTy call_int1 (by rfl) T.z_int (by decide +kernel) (pa_cons (pe_ix it_list (pv 0) pe_int (fun _ _ => rfl)) pa_nil)) (pv 1)))
      (pss_cons (ps_asg (pe_op op_fdiv (pe_ix it_list (pv 0) pe_int (fun _ _ => rfl)) (pv 1)) (pg_sub (pv 0) pe_int set_list))
      (pss_one (ps_ret (pv 4)))))), ?_⟩
  have hmI : (0 : Int) < (m : Int) := by omega
  have hmL : (m : Int) < 1073741824 := by omega
  have fin : ∀ (H2 : Hp) (c2 n2 : Nat), SameX s H H2 → H2 l = some (.lst (ns.map V.int)) → Q (.int ((c2 : Int) % (m : Int))) (upd H2 s (.lst ([.ref l, vN c2, vN n2].set 1 (.int ((c2 : Int) / (m : Int)))))) := fun H2 c2 n2 x h2 => by
    have e1 : (c2 : Int) % (m : Int) = ((c2 % m : Nat) : Int) := rfl
    have e2 : (c2 : Int) / (m : Int) = ((c2 / m : Nat) : Int) := rfl
    rw [e1, e2]
    exact q (c2 % m) _ (Nat.mod_lt _ hm0) (x.trans SameX.upd) ⟨ns, c2 / m, n2, upd_same, by rw [upd_ne hls]; exact h2, hls⟩
  refine ⟨_, rfl, s, _, 1, _, rfl, rfl, hs, rfl, rfl, _, rfl, ?_⟩
  by_cases h0 : V.int (c : Int) = V.int 0
  · rw [decide_eq_true h0]
    refine iteT ⟨_, rfl, s, _, 2, _, rfl, rfl, hs, rfl, _, rfl, _, _, rfl, rfl, ?_⟩
    have e7 : V.int (7 + (n : Int)) = vN (7 + n) := by show V.int _ = V.int ((7 + n : Nat) : Int); rw [Int.natCast_add]; rfl
    dsimp only
    rw [e7]
    refine ⟨_, rfl, _, rfl, s, _, 0, _, rfl, rfl, hs, rfl, l, _, rfl, .inl hl, _, _, rfl, rfl, _, rfl, ?_⟩
    rw [int_lt, List.length_map]
    by_cases hk : n < ns.length
    · rw [decide_eq_true hk]
      have hg : (ns.map V.int)[n]? = some (V.int ns[n]) := by rw [List.getElem?_map, List.getElem?_eq_getElem hk]; rfl
      refine iteT ⟨_, rfl, s, _, 0, _, rfl, rfl, hs, rfl, _, rfl, l, _, n, _, rfl, rfl, hl, hg, _, rfl, ?_⟩
      dsimp only
      rw [nn_abs]
      generalize (ns[n]).natAbs = b
      refine lt_pow (c := b) rfl fun d => ?_
      refine if_both ?_ ?_
      · refine ⟨_, rfl, _, _, rfl, rfl, .inr ⟨by decide, by decide⟩, _, rfl, _, _, rfl, rfl, .inr ⟨by decide, by decide⟩, _, _, rfl, rfl, _, _, rfl, rfl, .inl ⟨_, rfl, _, _, rfl, rfl, (by decide : (0 : Int) < 2147483647), ?_⟩⟩
        obtain ⟨r, hr1⟩ := nn_mod ((b : Int) * 48271 + (n : Int) * 69621 + 11)
        dsimp only
        rw [hr1]
        refine ⟨_, rfl, _, _, rfl, rfl, .inr ⟨by decide, by decide⟩, _, _, rfl, rfl, .inl ⟨_, rfl, _, _, rfl, rfl, (by decide : (0 : Int) < 2147483647), _, _, rfl, rfl, .inr ⟨by decide, by decide⟩, _, rfl, _, _, rfl, rfl, ?_⟩⟩
        obtain ⟨t, ht1⟩ := nn_mod ((r : Int) * 16807 + 13)
        dsimp only
        rw [ht1, nn_sum]
        generalize t * 65537 + r = z
        refine ⟨_, rfl, _, rfl, s, _, 1, 1, rfl, rfl, hs, rfl, ?_⟩
        have x1 : SameX s H (upd H s (.lst ([.ref l, vN c, vN n].set 1 (vN z)))) := SameX.upd
        have hs1 : upd H s (.lst ([.ref l, vN c, vN n].set 1 (vN z))) s = some (.lst [.ref l, vN z, vN n]) := upd_same
        generalize upd H s (.lst ([.ref l, vN c, vN n].set 1 (vN z))) = H1 at x1 hs1 ⊢
        refine ⟨_, rfl, _, _, rfl, rfl, _, rfl, s, _, 2, 2, rfl, rfl, hs1, rfl, ?_⟩
        have x2 : SameX s H (upd H1 s (.lst ([.ref l, vN z, vN n].set 2 (.int ((n : Int) + 1))))) := x1.trans SameX.upd
        have hs2 : upd H1 s (.lst ([.ref l, vN z, vN n].set 2 (.int ((n : Int) + 1)))) s = some (.lst [.ref l, vN z, vN (n + 1)]) := upd_same
        generalize upd H1 s (.lst ([.ref l, vN z, vN n].set 2 (.int ((n : Int) + 1)))) = H2 at x2 hs2 ⊢
        have hl2 := x2 _ _ hls hl
        refine ⟨_, rfl, s, _, 1, _, rfl, rfl, hs2, rfl, .inl ⟨_, rfl, _, rfl, _, _, rfl, rfl, hmI, ?_⟩⟩
        refine ⟨_, rfl, s, _, 1, _, rfl, rfl, hs2, rfl, _, rfl, _, _, rfl, rfl, ⟨hmI, hmL⟩, _, rfl, s, _, 1, 1, rfl, rfl, hs2, rfl, ?_⟩
        exact ⟨_, rfl, fin _ _ _ x2 hl2⟩
      · refine ⟨_, rfl, _, rfl, s, _, 1, 1, rfl, rfl, hs, rfl, ?_⟩
        have x1 : SameX s H (upd H s (.lst ([.ref l, vN c, vN n].set 1 (vN b)))) := SameX.upd
        have hs1 : upd H s (.lst ([.ref l, vN c, vN n].set 1 (vN b))) s = some (.lst [.ref l, vN b, vN n]) := upd_same
        generalize upd H s (.lst ([.ref l, vN c, vN n].set 1 (vN b))) = H1 at x1 hs1 ⊢
        refine ⟨_, rfl, _, _, rfl, rfl, _, rfl, s, _, 2, 2, rfl, rfl, hs1, rfl, ?_⟩
        have x2 : SameX s H (upd H1 s (.lst ([.ref l, vN b, vN n].set 2 (.int ((n : Int) + 1))))) := x1.trans SameX.upd
        have hs2 : upd H1 s (.lst ([.ref l, vN b, vN n].set 2 (.int ((n : Int) + 1)))) s = some (.lst [.ref l, vN b, vN (n + 1)]) := upd_same
        generalize upd H1 s (.lst ([.ref l, vN b, vN n].set 2 (.int ((n : Int) + 1)))) = H2 at x2 hs2 ⊢
        have hl2 := x2 _ _ hls hl
        refine ⟨_, rfl, s, _, 1, _, rfl, rfl, hs2, rfl, .inl ⟨_, rfl, _, rfl, _, _, rfl, rfl, hmI, ?_⟩⟩
        refine ⟨_, rfl, s, _, 1, _, rfl, rfl, hs2, rfl, _, rfl, _, _, rfl, rfl, ⟨hmI, hmL⟩, _, rfl, s, _, 1, 1, rfl, rfl, hs2, rfl, ?_⟩
        exact ⟨_, rfl, fin _ _ _ x2 hl2⟩
    · rw [decide_eq_false hk]
      refine iteF ?_
      generalize 7 + n = b
      refine lt_pow (c := b) rfl fun d => ?_
      refine if_both ?_ ?_
      · refine ⟨_, rfl, _, _, rfl, rfl, .inr ⟨by decide, by decide⟩, _, rfl, _, _, rfl, rfl, .inr ⟨by decide, by decide⟩, _, _, rfl, rfl, _, _, rfl, rfl, .inl ⟨_, rfl, _, _, rfl, rfl, (by decide : (0 : Int) < 2147483647), ?_⟩⟩
        obtain ⟨r, hr1⟩ := nn_mod ((b : Int) * 48271 + (n : Int) * 69621 + 11)
        dsimp only
        rw [hr1]
        refine ⟨_, rfl, _, _, rfl, rfl, .inr ⟨by decide, by decide⟩, _, _, rfl, rfl, .inl ⟨_, rfl, _, _, rfl, rfl, (by decide : (0 : Int) < 2147483647), _, _, rfl, rfl, .inr ⟨by decide, by decide⟩, _, rfl, _, _, rfl, rfl, ?_⟩⟩
        obtain ⟨t, ht1⟩ := nn_mod ((r : Int) * 16807 + 13)
        dsimp only
        rw [ht1, nn_sum]
        generalize t * 65537 + r = z
        refine ⟨_, rfl, _, rfl, s, _, 1, 1, rfl, rfl, hs, rfl, ?_⟩
        have x1 : SameX s H (upd H s (.lst ([.ref l, vN c, vN n].set 1 (vN z)))) := SameX.upd
        have hs1 : upd H s (.lst ([.ref l, vN c, vN n].set 1 (vN z))) s = some (.lst [.ref l, vN z, vN n]) := upd_same
        generalize upd H s (.lst ([.ref l, vN c, vN n].set 1 (vN z))) = H1 at x1 hs1 ⊢
        refine ⟨_, rfl, _, _, rfl, rfl, _, rfl, s, _, 2, 2, rfl, rfl, hs1, rfl, ?_⟩
        have x2 : SameX s H (upd H1 s (.lst ([.ref l, vN z, vN n].set 2 (.int ((n : Int) + 1))))) := x1.trans SameX.upd
        have hs2 : upd H1 s (.lst ([.ref l, vN z, vN n].set 2 (.int ((n : Int) + 1)))) s = some (.lst [.ref l, vN z, vN (n + 1)]) := upd_same
        generalize upd H1 s (.lst ([.ref l, vN z, vN n].set 2 (.int ((n : Int) + 1)))) = H2 at x2 hs2 ⊢
        have hl2 := x2 _ _ hls hl
        refine ⟨_, rfl, s, _, 1, _, rfl, rfl, hs2, rfl, .inl ⟨_, rfl, _, rfl, _, _, rfl, rfl, hmI, ?_⟩⟩
        refine ⟨_, rfl, s, _, 1, _, rfl, rfl, hs2, rfl, _, rfl, _, _, rfl, rfl, ⟨hmI, hmL⟩, _, rfl, s, _, 1, 1, rfl, rfl, hs2, rfl, ?_⟩
        exact ⟨_, rfl, fin _ _ _ x2 hl2⟩
      · refine ⟨_, rfl, _, rfl, s, _, 1, 1, rfl, rfl, hs, rfl, ?_⟩
        have x1 : SameX s H (upd H s (.lst ([.ref l, vN c, vN n].set 1 (vN b)))) := SameX.upd
        have hs1 : upd H s (.lst ([.ref l, vN c, vN n].set 1 (vN b))) s = some (.lst [.ref l, vN b, vN n]) := upd_same
        generalize upd H s (.lst ([.ref l, vN c, vN n].set 1 (vN b))) = H1 at x1 hs1 ⊢
        refine ⟨_, rfl, _, _, rfl, rfl, _, rfl, s, _, 2, 2, rfl, rfl, hs1, rfl, ?_⟩
        have x2 : SameX s H (upd H1 s (.lst ([.ref l, vN b, vN n].set 2 (.int ((n : Int) + 1))))) := x1.trans SameX.upd
        have hs2 : upd H1 s (.lst ([.ref l, vN b, vN n].set 2 (.int ((n : Int) + 1)))) s = some (.lst [.ref l, vN b, vN (n + 1)]) := upd_same
        generalize upd H1 s (.lst ([.ref l, vN b, vN n].set 2 (.int ((n : Int) + 1)))) = H2 at x2 hs2 ⊢
        have hl2 := x2 _ _ hls hl
        refine ⟨_, rfl, s, _, 1, _, rfl, rfl, hs2, rfl, .inl ⟨_, rfl, _, rfl, _, _, rfl, rfl, hmI, ?_⟩⟩
        refine ⟨_, rfl, s, _, 1, _, rfl, rfl, hs2, rfl, _, rfl, _, _, rfl, rfl, ⟨hmI, hmL⟩, _, rfl, s, _, 1, 1, rfl, rfl, hs2, rfl, ?_⟩
        exact ⟨_, rfl, fin _ _ _ x2 hl2⟩
  · rw [decide_eq_false h0]
    refine iteF ?_
    refine ⟨_, rfl, s, _, 1, _, rfl, rfl, hs, rfl, .inl ⟨_, rfl, _, rfl, _, _, rfl, rfl, hmI, ?_⟩⟩
    refine ⟨_, rfl, s, _, 1, _, rfl, rfl, hs, rfl, _, rfl, _, _, rfl, rfl, ⟨hmI, hmL⟩, _, rfl, s, _, 1, 1, rfl, rfl, hs, rfl, ?_⟩
    exact ⟨_, rfl, fin _ _ _ (SameX.refl s H) hl⟩

abbrev s__law_pick : Stmt := top 43
theorem sc__law_pick : FnScope ["_law_stream_here", "_law_rows"] ["_law_stream_here", "_law_rows"] (defScope s__law_pick) := ⟨rfl, rfl, rfl, by decide +kernel, rfl, by decide +kernel, by decide +kernel⟩
theorem ok__law_pick {ps1 : List Str} (T : Txt K mg) (F : Fun K "_law_pick" "_law_pick" s__law_pick f fd) (C_law_next : Cd P w K mg base k "_law_next" ps1 spNext) : FnOk P w K mg base CX0 (k + 1) f fd ["_law_stream_here", "_law_rows"] spPick := by
  have nd := sc__law_pick.nd
  refine F.ok sc__law_pick (fun vs H Q E h => ?_) (fun cdv A outer s H vs Q E hr h => ?_)
  · obtain ⟨s, l, a, xs, rfl, _⟩ := h
    rfl
  obtain ⟨s, l, a, xs, rfl, hS, ha, hne, h0, h1, q⟩ := h
  refine ⟨_, (pss_one (ps_ret (pe_ix it_list (pv 1) (pe_cd C_law_next hr (by rfl) (pa_cons (pv 0) (pa_cons (pe_callB call_len2 (by rfl) T.z_len (by decide +kernel) (pa_cons (pv 1) pa_nil)) pa_nil))) (fun _ _ => rfl)))), ?_⟩
  refine ⟨_, rfl, _, rfl, _, rfl, a, _, rfl, .inl ha, s, l, xs.length, rfl, hS, h0, h1, fun d H1 hd x1 S1 => ?_⟩
  have hg : xs[d]? = some xs[d] := List.getElem?_eq_getElem hd
  exact ⟨a, _, d, _, rfl, rfl, x1 _ _ hne ha, hg, q _ H1 (List.getElem_mem hd) x1 S1⟩
end
end K65
end

section
set_option Elab.async false
set_option linter.all false
set_option maxRecDepth 100000
set_option maxHeartbeats 4000000
/-! The law's expressions. -/
namespace K65
open PySem L2
open PyProof.Rows (envOfC)

theorem vN_sub {a b : Nat} (h : b ≤ a) : V.int ((a : Int) - (b : Int)) = vN (a - b) := by
  show V.int _ = V.int ((a - b : Nat) : Int)
  congr 1
  omega
theorem tOr_of {tA tB : TT} {σ : St} {H : Hp} {Q : Bool → Hp → Prop} {c d : Bool} (ha : ∀ Q' : Bool → Hp → Prop, Q' c H → tA σ H Q') (hb : ∀ Q' : Bool → Hp → Prop, Q' d H → tB σ H Q') (h : Q (c || d) H) : tOr tA tB σ H Q := by
  refine ha _ ?_
  cases c with
  | true => exact iteT h
  | false => exact iteF (hb _ h)
theorem set_self {σ : St} {i : Nat} {x : Option V} (h : σ[i]? = some x) : σ.set i x = σ := by
  obtain ⟨hlt, e⟩ := List.getElem?_eq_some_iff.mp h
  rw [← e, List.set_getElem_self]
theorem ouS_eq {b : Bool} {o : Option Bool} (h : roS b = ouS o) : o = some b := by
  cases o with
  | none => cases b <;> exact absurd h (by decide +kernel)
  | some c => cases b <;> cases c <;> first | rfl | exact absurd h (by decide +kernel)
theorem word_if {σ : St} {H : Hp} {D : Ends} {b : Bool} {o : Option Bool} (h6 : σ[6]? = some (some (.str (roS b)))) (h4 : σ[4]? = some (some (.str (ouS o)))) (k : ∀ b', o ≠ some b' → D.nx (σ.set 6 (some (.str (roS b')))) H) :
    tIfS (tTest (tOp rEq (tVar 6) (tVar 4))) (tAsg (tIf (tTest (tOp rEq (tVar 4) (tC (.str "join")))) (tC (.str "or")) (tC (.str "join"))) (gName 6)) tNext D σ H := by
  refine ⟨_, h6, _, h4, rfl, _, rfl, ?_⟩
  by_cases h : roS b = ouS o
  · have e1 : decide (V.str (roS b) = V.str (ouS o)) = true := decide_eq_true (by rw [h])
    rw [e1]
    have ho := ouS_eq h
    subst ho
    refine iteT ⟨_, h4, rfl, _, rfl, ?_⟩
    have e2 : decide (V.str (ouS (some b)) = V.str "join") = !b := w_join b
    rw [e2]
    cases b with
    | true => exact iteF (k false (by decide))
    | false => exact iteT (k true (by decide))
  · have e1 : decide (V.str (roS b) = V.str (ouS o)) = false := decide_eq_false fun z => h (V.str.inj z)
    rw [e1]
    refine iteF ?_
    have h1 := k b (fun z => h (by rw [z]; rfl))
    rw [set_self h6] at h1
    exact h1
theorem share_of {c : Bool} {s l : Addr} {left : Nat} {H : Hp} {t1 t2 : TE} {σ : St} {Q : VK} (k : ∀ (sh : Nat) (H6 : Hp), sh ≤ left → SameX s H H6 → StreamAt s l H6 → Q (vN sh) H6)
    (h1 : (∀ (sh : Nat) (H6 : Hp), sh ≤ left → SameX s H H6 → StreamAt s l H6 → Q (vN sh) H6) → t1 σ H Q) (h2 : (∀ (sh : Nat) (H6 : Hp), sh ≤ left → SameX s H H6 → StreamAt s l H6 → Q (vN sh) H6) → t2 σ H Q) : if c = true then t1 σ H Q else t2 σ H Q :=
  if_both (h1 k) (h2 k)
/-- an expression out of the stream -/
def spGrown (n : Nat) : Sp := fun vs H Q _ => ∃ (s l : Addr) (ls : List Bool) (room d : Nat) (o : Option Bool), vs = [.ref s, .str (sOf ls), vN room, vN d, .str (ouS o)] ∧ d < n ∧ StreamAt s l H ∧ ls ≠ [] ∧ ls.length ≤ 8 ∧ room ≤ 6 ∧ d ≤ 4 ∧
  ∀ (e : Ex) (v : V) (H' : Hp), SameX s H H' → StreamAt s l H' → rE e v H' → Good d o e → e.lets.length ≤ room → Q v H'
def spCross : Sp := fun vs H Q _ => ∃ (s l : Addr), vs = [.ref s, .int 6] ∧ StreamAt s l H ∧ ∀ (e : Ex) (v : V) (H' : Hp), SameX s H H' → StreamAt s l H' → rE e v H' → ExOk e → e.lets.length ≤ 6 → Q v H'
theorem let_of {ls : List Bool} {v : V} (h : v ∈ (sOf ls).cps.toList.map fun c => V.str ⟨#[c]⟩) : ∃ b : Bool, v = .str (sOf [b]) := by
  obtain ⟨c, hc, rfl⟩ := List.mem_map.mp h
  have hc : c ∈ ls.map cd := by
    have e : (sOf ls).cps.toList = ls.map cd := rfl
    rw [← e]; exact hc
  obtain ⟨b, _, rfl⟩ := List.mem_map.mp hc
  exact ⟨b, rfl⟩
theorem let_len {ls : List Bool} : ((sOf ls).cps.toList.map fun c => V.str ⟨#[c]⟩).length = ls.length := by
  have e : (sOf ls).cps.toList = ls.map cd := rfl
  rw [List.length_map, e, List.length_map]

section
variable {P : Program} {w : World} {K : PySem.W.Frag} {mg : Str → Option Value} {base : Heap} {k : Nat} {f : Addr} {fd : FuncData}
abbrev s__law_grown : Stmt := top 44
theorem sc__law_grown : FnScope ["_law_stream_here", "_law_letters_here", "_law_room", "_law_deep", "_law_outer", "_law_pick_here", "_law_word", "_law_many", "_law_left", "_law_parts", "_law_k", "_law_share"] ["_law_stream_here", "_law_letters_here", "_law_room", "_law_deep", "_law_outer"] (defScope s__law_grown) := ⟨rfl, rfl, rfl, by decide +kernel, rfl, by decide +kernel, by decide +kernel⟩
theorem ok__law_grown {n : Nat} {ps1 ps2 ps3 : List Str} (T : Txt K mg) (F : Fun K "_law_grown" "_law_grown" s__law_grown f fd) (C_law_next : Cd P w K mg base k "_law_next" ps1 spNext) (C_law_pick : Cd P w K mg base k "_law_pick" ps2 spPick)
    (C_law_grown : Cd P w K mg base k "_law_grown" ps3 (spGrown n)) : FnOk P w K mg base CX0 (k + 1) f fd ["_law_stream_here", "_law_letters_here", "_law_room", "_law_deep", "_law_outer"] (spGrown (n + 1)) := by
  have nd := sc__law_grown.nd
  refine F.ok sc__law_grown (fun vs H Q E h => ?_) (fun cdv A outer s H vs Q E hr h => ?_)
  · obtain ⟨s, l, ls, room, d, o, rfl, _⟩ := h
    rfl
  obtain ⟨s, l, ls, room, d, o, rfl, en, hS, hls, hl8, hroom, hd4, q⟩ := h
  refine ⟨_, (pss_cons (ps_set (i := 5) nd rfl (Or.inl rfl) (pe_cd C_law_next hr (by rfl) (pa_cons (pv 0) (pa_cons pe_int pa_nil))))
      (pss_cons (ps_if (PW.pt (pw_or (pt_cmpR op_eq (pv 3) pe_int (nomark _)) (pw_or (pt_cmpR op_eq (pv 2) pe_int (nomark _)) (pw_or1 (pt_cmpR op_eq (pv 5) pe_int (nomark _)))))) (pss_one (ps_ret (pe_ifExp (PW.pt (pw_and (pt_cmpR op_gt (pv 2) pe_int (nomark _)) (pw_and1 (pt_cmpR op_gt (pe_cd C_law_next hr (by rfl) (pa_cons (pv 0) (pa_cons pe_int pa_nil))) pe_int (nomark _))))) (pe_cd C_law_pick hr (by rfl) (pa_cons (pv 0) (pa_cons (pe_callTy (call_listS rfl) (by rfl) T.z_list (by decide +kernel) (pa_cons (pv 1) pa_nil)) pa_nil))) pe_str))) pss_nil)
      (pss_cons (ps_if (pt_cmpR op_lt (pv 5) pe_int (nomark _)) (pss_one (ps_ret (pe_tup (pa_cons (pe_cd C_law_pick hr (by rfl) (pa_cons (pv 0) (pa_cons (pe_lst (pa_cons pe_str (pa_cons pe_str pa_nil))) pa_nil))) (pa_cons (pe_cd C_law_grown hr (by rfl) (pa_cons (pv 0) (pa_cons (pv 1) (pa_cons (pv 2) (pa_cons (pe_op op_sub (pv 3) pe_int) (pa_cons pe_str pa_nil)))))) pa_nil))))) pss_nil)
      (pss_cons (ps_set (i := 6) nd rfl (Or.inl rfl) (pe_cd C_law_pick hr (by rfl) (pa_cons (pv 0) (pa_cons (pe_lst (pa_cons pe_str (pa_cons pe_str pa_nil))) pa_nil))))
      (pss_cons (ps_if (pt_cmpR op_eq (pv 6) (pv 4) (nomark _)) (pss_one (ps_set (i := 6) nd rfl (Or.inl rfl) (pe_ifExp (pt_cmpR op_eq (pv 4) pe_str (nomark _)) pe_str pe_str))) pss_nil)
      (pss_cons (ps_set (i := 7) nd rfl (Or.inl rfl) (pe_op op_add pe_int (pe_cd C_law_next hr (by rfl) (pa_cons (pv 0) (pa_cons pe_int pa_nil)))))
      (pss_cons (ps_set (i := 8) nd rfl (Or.inl rfl) (pv 2))
      (pss_cons (ps_set (i := 9) nd rfl (Or.inl rfl) (pe_lst pa_nil))
      (pss_cons (ps_for PassesOwn.never rfl (pi_range1 (by rfl) T.z_range (pa_cons (pv 7) pa_nil)) (pg_name (i := 10) nd rfl (Or.inl rfl)) (pss_cons (ps_set (i := 11) nd rfl (Or.inl rfl) (pe_ifExp (pt_cmpR op_eq (pe_op op_add (pv 10) pe_int) (pv 7) (nomark _)) (pv 8) (pe_cd C_law_next hr (by rfl) (pa_cons (pv 0) (pa_cons (pe_op op_add (pv 8) pe_int) pa_nil)))))
        (pss_cons (ps_set (i := 8) nd rfl (Or.inl rfl) (pe_op op_sub (pv 8) (pv 11)))
        (pss_one (ps_expr (pe_bm PySem.F.plainAttrs_list PySem.F.slot_list_append PySem.F.type_list_append mt_append (pv 9) (pa_cons (pe_cd C_law_grown hr (by rfl) (pa_cons (pv 0) (pa_cons (pv 1) (pa_cons (pv 11) (pa_cons (pe_op op_sub (pv 3) pe_int) (pa_cons (pv 6) pa_nil)))))) pa_nil)))))))
      (pss_one (ps_ret (pe_tup (pa_cons (pv 6) (pa_cons (pe_callTy call_tuple2 (by rfl) T.z_tuple (by decide +kernel) (pa_cons (pv 9) pa_nil)) pa_nil)))))))))))))), ?_⟩
  have hlz : (sOf ls).length ≤ 1000 := by rw [sOf_len]; omega
  have hlp : 0 < ls.length := by
    cases ls with
    | nil => exact absurd rfl hls
    | cons a r => exact Nat.succ_pos _
  refine ⟨_, rfl, s, l, 8, rfl, hS, by decide, by decide, fun pk H1 hpk x1 S1 => ?_⟩
  dsimp only [gName]
  refine tOr_of (fun Q' h => ⟨_, rfl, rfl, _, rfl, h⟩) (fun Q' h => tOr_of (fun Q' h => ⟨_, rfl, rfl, _, rfl, h⟩) (fun Q' h => ⟨_, rfl, rfl, _, rfl, h⟩) h) ?_
  cases hb : (decide (V.int (d : Int) = V.int 0) || (decide (V.int (room : Int) = V.int 0) || decide (V.int (pk : Int) = V.int 0))) with
  | true =>
    refine iteT ⟨_, rfl, _, _, rfl, rfl, _, rfl, ?_⟩
    have e0 : decide ((0 : Int) < (room : Int)) = decide (0 < room) := int_lt 0 room
    rw [e0]
    by_cases hr0 : 0 < room
    · rw [decide_eq_true hr0]
      refine iteT ⟨_, rfl, s, l, 8, rfl, S1, by decide, by decide, fun d2 H2 hd2 x2 S2 => ⟨_, _, rfl, rfl, _, rfl, if_both ?_ ?_⟩⟩
      · refine ⟨_, rfl, _, rfl, sOf ls, rfl, hlz, fun L hL => ?_⟩
        have s3 := same_new hL (.lst ((sOf ls).cps.toList.map fun c => V.str ⟨#[c]⟩))
        refine ⟨s, l, L, _, rfl, S2.same s3, upd_same, (S2.ne hL).1, by rw [let_len]; exact hlp, by rw [let_len]; omega, fun v H4 hv x4 S4 => ?_⟩
        obtain ⟨b, rfl⟩ := let_of hv
        exact q (.lf (some b)) _ H4 (x1.trans (x2.trans ((SameX.of s3).trans x4))) S4 rfl Good.lf hr0
      · exact q (.lf none) _ H2 (x1.trans x2) S2 (congrArg V.str sOf_nil) Good.lf (Nat.zero_le _)
    · rw [decide_eq_false hr0]
      exact iteF (iteF (q (.lf none) _ H1 x1 S1 (congrArg V.str sOf_nil) Good.lf (Nat.zero_le _)))
  | false =>
    rw [Bool.or_eq_false_iff, Bool.or_eq_false_iff] at hb
    have hn0 : d ≠ 0 := fun z => by
      have h1 := of_decide_eq_false hb.1
      exact h1 (by rw [z]; rfl)
    obtain ⟨d', rfl⟩ : ∃ d', d = d' + 1 := ⟨d - 1, by omega⟩
    have ed : V.int (((d' + 1 : Nat) : Int) - 1) = vN d' := vN_sub (a := d' + 1) (b := 1) (by omega)
    refine iteF ⟨_, rfl, _, _, rfl, rfl, _, rfl, if_both ?_ ?_⟩
    · -- ('maybe' or 'many', grown)
      refine ⟨_, rfl, by show 2 ≤ sizeLine; decide, fun L hL => ?_⟩
      have s2 := same_new hL (.lst [.str "maybe", .str "many"])
      refine ⟨s, l, L, _, rfl, S1.same s2, upd_same, (S1.ne hL).1, by show 0 < 2; decide, by show 2 < 1073741824; decide, fun v H2 hv x2 S2 => ?_⟩
      obtain ⟨m, rfl⟩ : ∃ m, v = .str (sgS m) := by
        rcases List.mem_cons.mp hv with h1 | h1
        · exact ⟨false, h1⟩
        · exact ⟨true, List.mem_singleton.mp h1⟩
      refine ⟨_, rfl, _, rfl, _, rfl, _, rfl, _, _, rfl, rfl, s, l, ls, room, d', none, by rw [← ed]; rfl, by omega, S2, hls, hl8, hroom, by omega, fun e u H3 x3 S3 hu hg hle => ⟨by show 2 ≤ sizeLine; decide, fun t ht => ?_⟩⟩
      have s4 := same_new ht (.tup [.str (sgS m), u])
      exact q (.sg m e) _ _ (x1.trans ((SameX.of s2).trans (x2.trans (x3.trans (SameX.of s4))))) (S3.same s4) ⟨t, u, rfl, upd_same, rE_ts (TS.of s4) _ _ hu⟩ hg hle
    · -- a row
      refine ⟨_, rfl, by show 2 ≤ sizeLine; decide, fun L hL => ?_⟩
      have s2 := same_new hL (.lst [.str "join", .str "or"])
      refine ⟨s, l, L, _, rfl, S1.same s2, upd_same, (S1.ne hL).1, by show 0 < 2; decide, by show 2 < 1073741824; decide, fun v H2 hv x2 S2 => ?_⟩
      obtain ⟨b0, rfl⟩ : ∃ m, v = .str (roS m) := by
        rcases List.mem_cons.mp hv with h1 | h1
        · exact ⟨false, h1⟩
        · exact ⟨true, List.mem_singleton.mp h1⟩
      dsimp only [gName]
      refine word_if (b := b0) (o := o) rfl rfl fun b hb' => ?_
      refine ⟨_, rfl, s, l, 2, rfl, S2, by decide, by decide, fun d2 H3 hd2 x3 S3 => ⟨_, _, rfl, rfl, ?_⟩⟩
      dsimp only
      rw [show V.int (2 + (d2 : Int)) = vN (2 + d2) from rfl]
      have hmany : 2 ≤ 2 + d2 ∧ 2 + d2 ≤ 3 := by omega
      generalize 2 + d2 = many at hmany
      refine ⟨_, rfl, Nat.zero_le _, fun pa hpa => ?_⟩
      have s4 := same_new hpa (.lst [])
      have h4 : upd H3 pa (.lst []) pa = some (.lst []) := upd_same
      have S4 := S3.same s4
      obtain ⟨nps, npl⟩ := S3.ne hpa
      generalize upd H3 pa (.lst []) = H4 at s4 h4 S4 ⊢
      have x04 : SameX s H H4 := x1.trans ((SameX.of s2).trans (x2.trans (x3.trans (SameX.of s4))))
      have hpaH : H pa = none := (x1.trans ((SameX.of s2).trans (x2.trans x3))).free S3 hpa
      refine ⟨_, rfl, _, rfl, by omega, by omega, ?_⟩
      refine for_by (wk_rng (n := many) (S := fun _ => True))
        (fun i σ H5 => ∃ (left : Nat) (y10 y11 : Option V) (us : List V) (es : List Ex), σ = [some (.ref s), some (.str (sOf ls)), some (vN room), some (vN (d' + 1)), some (.str (ouS o)), some (vN pk), some (.str (roS b)), some (vN many), some (vN left), some (.ref pa), y10, y11] ∧
          SameX s H H5 ∧ StreamAt s l H5 ∧ H5 pa = some (.lst us) ∧ Paired (fun e u => rE e u H5) es us ∧ es.length = i ∧ (∀ e ∈ es, Good d' (some b) e) ∧ (letsL es).length + left ≤ room)
        (fun _ _ _ _ => trivial) ⟨room, none, none, [], [], rfl, x04, S4, h4, .nil, rfl, fun _ h => (nomatch h), by show 0 + room ≤ room; omega⟩ ?_ ?_
      · rintro i x σ H5 hi ⟨left, y10, y11, us, es, rfl, x5, S5, h5, hpr, hei, hgs, hll⟩
        obtain ⟨i', hi', rfl⟩ := pr_get (nat_pr _) hi
        have hin : i < many := by
          have h1 := (List.getElem?_eq_some_iff.mp hi).1
          rw [List.length_map, List.length_range] at h1
          exact h1
        refine ⟨_, rfl, _, _, rfl, rfl, _, rfl, rfl, _, rfl, ?_⟩
        refine share_of (s := s) (l := l) (left := left) (fun sh H6 hsh x6 S6 => ?_) (fun kk => ⟨_, rfl, kk left H5 (Nat.le_refl _) (SameX.refl _ _) S5⟩)
          (fun kk => ⟨_, rfl, _, rfl, _, _, rfl, rfl, s, l, left + 1, rfl, S5, Nat.succ_pos _, by omega, fun d H6 hd x6 S6 => kk d H6 (by omega) x6 S6⟩)
        refine ⟨_, rfl, _, rfl, _, _, rfl, rfl, ?_⟩
        dsimp only
        rw [vN_sub hsh]
        have h6 := x6 _ _ nps h5
        refine ⟨_, rfl, .inl ⟨rfl, _, SqL.of h6⟩, _, rfl, _, rfl, _, rfl, _, rfl, _, _, rfl, rfl, _, rfl, s, l, ls, sh, d', some b, by rw [← ed]; rfl, by omega, S6, hls, hl8, by omega, by omega, fun e u H7 x7 S7 hu hg hle => ?_⟩
        have h7 := x7 _ _ nps h6
        have hul := hpr.length
        refine ⟨pa, _, _, rfl, rfl, h7, by rw [← hul, hei]; exact Nat.lt_of_lt_of_le (by omega : i < 3) (by decide), ?_⟩
        refine ⟨left - sh, _, _, us ++ [u], es ++ [e], rfl, (x5.trans (x6.trans x7)).mut hpaH, S7.mut nps npl, upd_same, ?_, by rw [List.length_append, hei]; rfl, fun e' he' => ?_, ?_⟩
        · have t6 : TS H5 H7 := S5.ts (x6.trans x7)
          exact pr_app (pr_imp hpr fun _ _ _ r => rE_ts (t6.trans (TS.upd h7)) _ _ r) (.cons (rE_ts (TS.upd h7) _ _ hu) .nil)
        · rcases List.mem_append.mp he' with h1 | h1
          · exact hgs e' h1
          · rw [List.mem_singleton.mp h1]
            exact hg
        · have e1 : (letsL (es ++ [e])).length = (letsL es).length + e.lets.length := by
            clear hpr hei hgs hll hul
            induction es with
            | nil => show (e.lets ++ []).length = 0 + _; rw [List.append_nil, Nat.zero_add]
            | cons a r ih => show (a.lets ++ letsL (r ++ [e])).length = (a.lets ++ letsL r).length + _; rw [List.length_append, List.length_append, ih]; omega
          rw [e1]
          omega
      · rintro σ H5 ⟨left, y10, y11, us, es, rfl, x5, S5, h5, hpr, hei, hgs, hll⟩
        rw [List.length_map, List.length_range] at hei
        refine ⟨_, rfl, _, rfl, pa, us, rfl, h5, fun t ht => ⟨by show 2 ≤ sizeLine; decide, fun t2 ht2 => ?_⟩⟩
        have s6 := same_new ht (.tup us)
        have h6 : upd H5 t (.tup us) t = some (.tup us) := upd_same
        generalize upd H5 t (.tup us) = H6 at s6 h6 ht2 ⊢
        have s7 := same_new ht2 (.tup [.str (roS b), .ref t])
        refine q (.ro b es) _ _ (x5.trans (SameX.of (s6.trans s7))) (S5.same (s6.trans s7)) ⟨t2, t, us, rfl, upd_same, s7 _ _ h6, rEs_of (pr_imp hpr fun _ _ _ r => rE_ts (TS.of (s6.trans s7)) _ _ r)⟩ ⟨hb', by omega, by omega, hgs⟩ ?_
        show (letsL es).length ≤ room
        omega
end
end K65
end

section
set_option Elab.async false
set_option linter.all false
set_option maxRecDepth 100000
set_option maxHeartbeats 4000000
/-! The law's crossing. -/
namespace K65
open PySem L2
open PyProof.Rows (envOfC)

theorem sOf_ab : ("ab" : Str) = sOf [false, true] := by decide +kernel
theorem sOf_aab : ("aab" : Str) = sOf [false, false, true] := by decide +kernel
/-- a letter, maybe a letter -/
def Sm (e : Ex) : Prop := ∃ b : Bool, e = .lf (some b) ∨ e = .sg false (.lf (some b))
theorem Sm.good {e : Ex} {d : Nat} {o : Option Bool} (h : Sm e) : Good (d + 1) o e := by
  obtain ⟨b, rfl | rfl⟩ := h
  · exact Good.lf
  · show Good d none (.lf (some b))
    exact Good.lf
theorem Sm.len {e : Ex} (h : Sm e) : e.lets.length = 1 := by
  obtain ⟨b, rfl | rfl⟩ := h <;> rfl
theorem Sm.cnt {e : Ex} (h : Sm e) : e.cnt ≤ 2 := by
  obtain ⟨b, rfl | rfl⟩ := h
  · exact Nat.le_succ 1
  · exact Nat.le_refl 2
theorem sm_len : ∀ {es : List Ex}, (∀ e ∈ es, Sm e) → (letsL es).length = es.length ∧ cntL es ≤ 2 * es.length
  | [], _ => ⟨rfl, Nat.le_refl _⟩
  | e :: r, h => by
    obtain ⟨h1, h2⟩ := sm_len (es := r) fun x hx => h x (List.mem_cons_of_mem _ hx)
    have h3 := h e List.mem_cons_self
    have h4 := h3.len
    have h5 := h3.cnt
    constructor
    · show (e.lets ++ letsL r).length = _
      rw [List.length_append, List.length_cons]
      omega
    · show e.cnt + cntL r ≤ _
      rw [List.length_cons]
      omega
theorem lfs_sm (bs : List Bool) : ∀ e ∈ bs.map (fun b => Ex.lf (some b)), Sm e := fun e h => by
  obtain ⟨b, _, rfl⟩ := List.mem_map.mp h
  exact ⟨b, .inl rfl⟩
/-- an expression that is small enough -/
structure WOk (e : Ex) : Prop where
  good : Good 2 none e
  len : e.lets.length ≤ 6
  cnt : e.cnt ≤ 13
theorem wok_row {es : List Ex} (b : Bool) (h : ∀ e ∈ es, Sm e) (h2 : 2 ≤ es.length) (h6 : es.length ≤ 6) : WOk (.ro b es) := by
  obtain ⟨l1, l2⟩ := sm_len h
  refine ⟨⟨by simp, h2, h6, fun e he => (h e he).good⟩, ?_, ?_⟩
  · show (letsL es).length ≤ 6
    omega
  · show 1 + cntL es ≤ 13
    omega
theorem wok_one {e : Ex} (h : Sm e) : WOk e := by
  have h1 := h.len
  have h2 := h.cnt
  exact ⟨h.good, by omega, by omega⟩
theorem val_of {c : Bool} {s l : Addr} {σ : St} {H : Hp} {t1 t2 : TE} {Q : VK} (k : ∀ (e : Ex) (v : V) (H' : Hp), SameX s H H' → StreamAt s l H' → rE e v H' → WOk e → Q v H')
    (h1 : c = true → (∀ (e : Ex) (v : V) (H' : Hp), SameX s H H' → StreamAt s l H' → rE e v H' → WOk e → Q v H') → t1 σ H Q)
    (h2 : c = false → (∀ (e : Ex) (v : V) (H' : Hp), SameX s H H' → StreamAt s l H' → rE e v H' → WOk e → Q v H') → t2 σ H Q) : if c = true then t1 σ H Q else t2 σ H Q := by
  cases c with
  | true => exact iteT (h1 rfl k)
  | false => exact iteF (h2 rfl k)
def bV (b : Bool) : V := .str (sOf [b])
theorem len_ls (ls : List Bool) : (sOf ls).cps.toList.length = ls.length := by
  have e : (sOf ls).cps.toList = ls.map cd := rfl
  rw [e, List.length_map]

section
variable {P : Program} {w : World} {K : PySem.W.Frag} {mg : Str → Option Value} {base : Heap} {k : Nat} {f : Addr} {fd : FuncData}
abbrev s__law_crossing : Stmt := top 51
theorem sc__law_crossing : FnScope ["_law_stream_here", "_law_room", "_law_letters_here", "_law_many", "_law_row", "_law_whole", "_law_other", "_law_rows", "_law_found", "_law_k", "_law_letter"] ["_law_stream_here", "_law_room"] (defScope s__law_crossing) := ⟨rfl, rfl, rfl, by decide +kernel, rfl, by decide +kernel, by decide +kernel⟩
theorem ok__law_crossing {ps1 ps2 ps3 ps4 : List Str} (T : Txt K mg) (F : Fun K "_law_crossing" "_law_crossing" s__law_crossing f fd) (C_law_next : Cd P w K mg base k "_law_next" ps1 spNext) (C_law_pick : Cd P w K mg base k "_law_pick" ps2 spPick)
    (C_law_grown : Cd P w K mg base k "_law_grown" ps3 (spGrown 5)) (C_law_count : Cd P w K mg base k "_law_count" ps4 (spCnt 7)) :
    FnOk P w K mg base CX0 (k + 1) f fd ["_law_stream_here", "_law_room"] spCross := by
  have nd := sc__law_crossing.nd
  refine F.ok sc__law_crossing (fun vs H Q E h => ?_) (fun cdv A outer s H vs Q E hr h => ?_)
  · obtain ⟨s, l, rfl, _⟩ := h
    rfl
  obtain ⟨s, l, rfl, hS, q⟩ := h
  refine ⟨_, (pss_cons (ps_set (i := 2) nd rfl (Or.inr rfl) (pe_cd C_law_pick hr (by rfl) (pa_cons (pv 0) (pa_cons (pe_lst (pa_cons pe_str (pa_cons pe_str (pa_cons pe_str (pa_cons pe_str pa_nil))))) pa_nil))))
      (pss_cons (ps_set (i := 3) nd rfl (Or.inl rfl) (pe_op op_add pe_int (pe_cd C_law_next hr (by rfl) (pa_cons (pv 0) (pa_cons (pv 1) pa_nil)))))
      (pss_cons (ps_setLc (own := [("_law_k", 9)]) (g := gName 9) (tt := tYes) (i := 4) rfl nd rfl rfl (sw_true rfl rfl rfl (by decide +kernel)) (pi_range1 (by rfl) T.z_range (pa_cons (pv 3) pa_nil)) (blkOk_by (own := [("_law_k", 9)]) (by kernel_rfl)) (fun _ _ _ _ _ => pg_name (i := 9) nd rfl (Or.inl rfl)) (fun _ _ _ _ _ => pts_nil) (fun _ _ _ _ _ => (pe_cd C_law_pick hr (by rfl) (pa_cons (pv 0) (pa_cons (pe_callTy (call_listS rfl) (by rfl) T.z_list (by decide +kernel) (pa_cons (pv 2) pa_nil)) pa_nil)))))
      (pss_cons (ps_setLc (own := [("_law_letter", 10)]) (g := gName 10) (tt := tYes) (i := 4) rfl nd rfl rfl (sw_true rfl rfl rfl (by decide +kernel)) (pi_L (pv 4)) (blkOk_by (own := [("_law_letter", 10)]) (by kernel_rfl)) (fun _ _ _ _ _ => pg_name (i := 10) nd rfl (Or.inl rfl)) (fun _ _ _ _ _ => pts_nil) (fun _ _ _ _ _ => (pe_ifExp (pt_cmpR op_gt (pe_cd C_law_next hr (by rfl) (pa_cons (pv 0) (pa_cons pe_int pa_nil))) pe_int (nomark _)) (pe_tup (pa_cons pe_str (pa_cons (pv 10) pa_nil))) (pv 10))))
      (pss_cons (ps_set (i := 5) nd rfl (Or.inl rfl) (pe_ifExp (pt_cmpR op_gt (pv 3) pe_int (nomark _)) (pe_tup (pa_cons pe_str (pa_cons (pe_callTy call_tuple2 (by rfl) T.z_tuple (by decide +kernel) (pa_cons (pv 4) pa_nil)) pa_nil))) (pe_ix it_list (pv 4) pe_int (fun _ _ => rfl))))
      (pss_cons (ps_set (i := 6) nd rfl (Or.inl rfl) (pe_ifExp (pt_cmpR op_gt (pv 3) pe_int (nomark _)) (pe_tup (pa_cons pe_str (pa_cons (pe_callTy call_tuple2 (by rfl) T.z_tuple (by decide +kernel) (pa_cons (pe_lc (own := [("_law_k", 9)]) (g := gName 9) (tt := tYes) rfl nd (pi_range1 (by rfl) T.z_range (pa_cons (pv 3) pa_nil)) (blkOk_by (own := [("_law_k", 9)]) (by kernel_rfl)) (fun _ _ _ _ _ => pg_name (i := 9) nd rfl (Or.inl rfl)) (fun _ _ _ _ _ => pts_nil) (fun _ _ _ _ _ => (pe_cd C_law_pick hr (by rfl) (pa_cons (pv 0) (pa_cons (pe_callTy (call_listS rfl) (by rfl) T.z_list (by decide +kernel) (pa_cons (pv 2) pa_nil)) pa_nil))))) pa_nil)) pa_nil))) pe_str))
      (pss_cons (ps_set (i := 7) nd rfl (Or.inl rfl) (pe_lst (pa_cons (pe_cd C_law_grown hr (by rfl) (pa_cons (pv 0) (pa_cons (pv 2) (pa_cons (pv 3) (pa_cons pe_int (pa_cons pe_str pa_nil)))))) (pa_cons (pe_cd C_law_grown hr (by rfl) (pa_cons (pv 0) (pa_cons (pv 2) (pa_cons (pv 3) (pa_cons pe_int (pa_cons pe_str pa_nil)))))) (pa_cons (pv 5) (pa_cons (pe_tup (pa_cons pe_str (pa_cons (pv 5) pa_nil))) (pa_cons (pv 6) (pa_cons (pe_tup (pa_cons pe_str (pa_cons (pv 6) pa_nil))) pa_nil))))))))
      (pss_cons (ps_set (i := 8) nd rfl (Or.inl rfl) (pe_cd C_law_pick hr (by rfl) (pa_cons (pv 0) (pa_cons (pv 7) pa_nil))))
      (pss_one (ps_ret (pe_ifExp (pt_cmpR op_le (pe_cd C_law_count hr (by rfl) (pa_cons (pv 8) pa_nil)) pe_int (nomark _)) (pv 8) (pv 5)))))))))))), ?_⟩
  -- the letters
  refine ⟨_, rfl, by show 4 ≤ sizeLine; decide, fun L hL => ?_⟩
  have s1 := same_new hL (.lst [.str "a", .str "a", .str "ab", .str "aab"])
  refine ⟨s, l, L, _, rfl, hS.same s1, upd_same, (hS.ne hL).1, by show 0 < 4; decide, by show 4 < 1073741824; decide, fun v H1 hv x1 S1 => ?_⟩
  obtain ⟨ls, rfl, hls0, hls⟩ : ∃ ls : List Bool, v = .str (sOf ls) ∧ 0 < ls.length ∧ ls.length ≤ 8 := by
    simp only [List.mem_cons, List.not_mem_nil, or_false] at hv
    rcases hv with h | h | h | h
    · exact ⟨[false], by rw [h, sOf_a], by decide, by decide⟩
    · exact ⟨[false], by rw [h, sOf_a], by decide, by decide⟩
    · exact ⟨[false, true], by rw [h, sOf_ab], by decide, by decide⟩
    · exact ⟨[false, false, true], by rw [h, sOf_aab], by decide, by decide⟩
  have hlz : (sOf ls).length ≤ 1000 := by rw [sOf_len]; omega
  have hlsn : ls ≠ [] := fun z => by rw [z] at hls0; exact absurd hls0 (by decide)
  have x01 : SameX s H H1 := (SameX.of s1).trans x1
  refine ⟨_, rfl, _, rfl, s, l, 6, rfl, S1, by decide, by decide, fun d H2 hd x2 S2 => ⟨_, _, rfl, rfl, ?_⟩⟩
  dsimp only
  rw [show V.int (1 + (d : Int)) = vN (1 + d) from rfl]
  have hmany : 1 ≤ 1 + d ∧ 1 + d ≤ 6 := by omega
  generalize 1 + d = many at hmany
  have x02 := x01.trans x2
  -- the row of letters
  refine ⟨_, rfl, _, rfl, by omega, by omega, fun D hD => ?_⟩
  obtain ⟨nDs, nDl⟩ := S2.ne hD
  refine lc_by (wk_rng (n := many) (S := fun _ => True)) (fun i H3 => SameX s H2 H3 ∧ StreamAt s l H3 ∧ ∃ bs : List Bool, H3 D = some (.lst (bs.map bV)) ∧ bs.length = i) (fun _ _ _ => trivial)
    ⟨SameX.of (same_new hD _), S2.same (same_new hD _), [], upd_same, rfl⟩ ?_ ?_
  · rintro i x H3 hi ⟨x3, S3, bs, hbs, hlen⟩
    have hin : i < many := by
      have h1 := (List.getElem?_eq_some_iff.mp hi).1
      rw [List.length_map, List.length_range] at h1
      exact h1
    refine ⟨rfl, yesT (iteT ⟨_, rfl, _, rfl, sOf ls, rfl, hlz, fun L2 hL2 => ?_⟩)⟩
    have s4 := same_new hL2 (.lst ((sOf ls).cps.toList.map fun c => V.str ⟨#[c]⟩))
    refine ⟨s, l, L2, _, rfl, S3.same s4, upd_same, (S3.ne hL2).1, by rw [let_len]; exact hls0, by rw [let_len]; omega, fun v H4 hv x4 S4 => ?_⟩
    obtain ⟨b, rfl⟩ := let_of hv
    refine ⟨bs.map bV, x4 _ _ nDs (s4 _ _ hbs), by rw [List.length_map, hlen]; exact Nat.lt_of_lt_of_le (by omega : i < 7) (by decide), (x3.trans ((SameX.of s4).trans x4)).mut hD, S4.mut nDs nDl, bs ++ [b], ?_, by rw [List.length_append, hlen]; rfl⟩
    rw [upd_same, List.map_append]
    rfl
  rintro H3 ⟨x3, S3, bs, hbs, hlen⟩
  rw [List.length_map, List.length_range] at hlen
  -- some of them under maybe
  refine ⟨_, rfl, D, _, rfl, hbs, fun K1 D2 hD2 => ?_⟩
  obtain ⟨nEs, nEl⟩ := S3.ne hD2
  have x03 := x02.trans x3
  refine lc_by (wk_lst fun H4 (x4 : SameX s H3 H4) => x4 _ _ nDs hbs) (fun i H4 => SameX s H3 H4 ∧ StreamAt s l H4 ∧ ∃ (es : List Ex) (ys : List V), H4 D2 = some (.lst ys) ∧ Paired (fun e v => rE e v H4) es ys ∧ es.length = i ∧ ∀ e ∈ es, Sm e) (fun _ _ h => h.1)
    ⟨SameX.of (same_new hD2 _), S3.same (same_new hD2 _), [], [], upd_same, .nil, rfl, fun _ h => (nomatch h)⟩ ?_ ?_
  · rintro i x H4 hi ⟨x4, S4, es, ys, hys, hpr, hel, hsm⟩
    have hin : i < many := by
      have h1 := (List.getElem?_eq_some_iff.mp hi).1
      rw [List.length_map, hlen] at h1
      exact h1
    obtain ⟨b, rfl⟩ : ∃ b, x = bV b := by
      obtain ⟨b, _, e⟩ := List.mem_map.mp (List.mem_of_getElem? hi)
      exact ⟨b, e.symm⟩
    have hyl := hpr.length
    have hlt : ys.length < sizeLine := by rw [← hyl, hel]; exact Nat.lt_of_lt_of_le (by omega : i < 7) (by decide)
    refine ⟨rfl, yesT (iteT ⟨_, rfl, s, l, 3, rfl, S4, by decide, by decide, fun d2 H5 hd2 x5 S5 => ⟨_, _, rfl, rfl, _, rfl, if_both ?_ ?_⟩⟩)⟩
    · refine ⟨_, rfl, by show 2 ≤ sizeLine; decide, fun t ht => ?_⟩
      have s6 := same_new ht (.tup [.str "maybe", bV b])
      have h6 : upd H5 t (.tup [.str "maybe", bV b]) t = _ := upd_same
      generalize upd H5 t (.tup [.str "maybe", bV b]) = H6 at s6 h6 ⊢
      have x46 := x5.trans (SameX.of s6)
      have hys6 := x46 _ _ nEs hys
      refine ⟨ys, hys6, hlt, (x4.trans x46).mut hD2, (S5.same s6).mut nEs nEl, es ++ [.sg false (.lf (some b))], ys ++ [.ref t], upd_same, ?_, by rw [List.length_append, hel]; rfl, fun e he => ?_⟩
      · exact pr_app (pr_imp hpr fun _ _ _ r => rE_ts ((S4.ts x46).trans (TS.upd hys6)) _ _ r) (.cons ⟨t, bV b, rfl, TS.upd hys6 _ _ h6, rfl⟩ .nil)
      · rcases List.mem_append.mp he with h1 | h1
        · exact hsm e h1
        · exact ⟨b, .inr (List.mem_singleton.mp h1)⟩
    · refine ⟨_, rfl, ?_⟩
      have hys5 := x5 _ _ nEs hys
      refine ⟨ys, hys5, hlt, (x4.trans x5).mut hD2, S5.mut nEs nEl, es ++ [.lf (some b)], ys ++ [bV b], upd_same, ?_, by rw [List.length_append, hel]; rfl, fun e he => ?_⟩
      · exact pr_app (pr_imp hpr fun _ _ _ r => rE_ts ((S4.ts x5).trans (TS.upd hys5)) _ _ r) (.cons rfl .nil)
      · rcases List.mem_append.mp he with h1 | h1
        · exact hsm e h1
        · exact ⟨b, .inl (List.mem_singleton.mp h1)⟩
  rintro H4 ⟨x4, S4, es, ys, hys, hpr, hel, hsm⟩
  rw [List.length_map, hlen] at hel
  have hyl := hpr.length
  have x04 := x03.trans x4
  -- the whole
  refine ⟨_, rfl, _, _, rfl, rfl, _, rfl, ?_⟩
  rw [show decide ((1 : Int) < (many : Int)) = decide (1 < many) from int_lt 1 many]
  refine val_of (s := s) (l := l) (fun W wv H5 x5 S5 hW kW => ?_) (fun hc kk => ?_) (fun hc kk => ?_)
  · -- the other
    refine ⟨_, rfl, _, _, rfl, rfl, _, rfl, ?_⟩
    rw [show decide ((1 : Int) < (many : Int)) = decide (1 < many) from int_lt 1 many]
    refine val_of (s := s) (l := l) (fun O ov H6 x6 S6 hO kO => ?_) (fun hc kk => ?_) (fun hc kk => ?_)
    · have x06 := x04.trans (x5.trans x6)
      refine ⟨_, rfl, _, rfl, _, rfl, s, l, ls, many, 4, none, rfl, by decide, S6, hlsn, hls, hmany.2, by decide, fun e1 v1 H7 x7 S7 h1 g1 l1 => ?_⟩
      refine ⟨_, rfl, _, rfl, _, rfl, s, l, ls, many, 3, none, rfl, by decide, S7, hlsn, hls, hmany.2, by decide, fun e2 v2 H8 x8 S8 h2 g2 l2 => ?_⟩
      refine ⟨_, rfl, _, rfl, by show 2 ≤ sizeLine; decide, fun t1 ht1 => ?_⟩
      have s9 := same_new ht1 (.tup [.str "many", wv])
      have ht19 : upd H8 t1 (.tup [.str "many", wv]) t1 = _ := upd_same
      generalize upd H8 t1 (.tup [.str "many", wv]) = H9 at s9 ht19 ⊢
      refine ⟨_, rfl, _, rfl, by show 2 ≤ sizeLine; decide, fun t2 ht2 => ?_⟩
      have s10 := same_new ht2 (.tup [.str "many", ov])
      have ht210 : upd H9 t2 (.tup [.str "many", ov]) t2 = _ := upd_same
      generalize upd H9 t2 (.tup [.str "many", ov]) = H10 at s10 ht210 ⊢
      refine ⟨by show 6 ≤ sizeLine; decide, fun L3 hL3 => ?_⟩
      have s11 := same_new hL3 (.lst [v1, v2, wv, .ref t1, ov, .ref t2])
      have hL311 : upd H10 L3 (.lst [v1, v2, wv, .ref t1, ov, .ref t2]) L3 = _ := upd_same
      have S10 := S8.same (s9.trans s10)
      obtain ⟨nLs, _⟩ := S10.ne hL3
      have S11 := S10.same s11
      generalize upd H10 L3 (.lst [v1, v2, wv, .ref t1, ov, .ref t2]) = H11 at s11 hL311 S11 ⊢
      have x811 : SameX s H8 H11 := SameX.of (s9.trans (s10.trans s11))
      have x611 := x7.trans (x8.trans x811)
      have tW : rE W wv H11 := rE_ts (S5.ts (x6.trans x611)) _ _ hW
      have tO : rE O ov H11 := rE_ts (S6.ts x611) _ _ hO
      have hall : ∀ v ∈ [v1, v2, wv, .ref t1, ov, .ref t2], ∃ e, rE e v H11 ∧ Good 6 none e ∧ e.lets.length ≤ 6 := fun v hv => by
        simp only [List.mem_cons, List.not_mem_nil, or_false] at hv
        rcases hv with rfl | rfl | rfl | rfl | rfl | rfl
        · exact ⟨e1, rE_ts (S7.ts (x8.trans x811)) _ _ h1, g1.le (by decide), Nat.le_trans l1 hmany.2⟩
        · exact ⟨e2, rE_ts (S8.ts x811) _ _ h2, g2.le (by decide), Nat.le_trans l2 hmany.2⟩
        · exact ⟨W, tW, kW.good.le (by decide), kW.len⟩
        · exact ⟨.sg true W, ⟨t1, wv, rfl, s11 _ _ (s10 _ _ ht19), tW⟩, (show Good 5 none W from kW.good.le (by decide)), kW.len⟩
        · exact ⟨O, tO, kO.good.le (by decide), kO.len⟩
        · exact ⟨.sg true O, ⟨t2, ov, rfl, s11 _ _ ht210, tO⟩, (show Good 5 none O from kO.good.le (by decide)), kO.len⟩
      refine ⟨_, rfl, _, rfl, s, l, L3, _, rfl, S11, hL311, nLs, by show 0 < 6; decide, by show 6 < 1073741824; decide, fun v H12 hv x12 S12 => ?_⟩
      obtain ⟨e, hev, hge, hle⟩ := hall v hv
      have hev12 := rE_ts (S11.ts x12) _ _ hev
      have hW12 := rE_ts (S11.ts x12) _ _ tW
      have x012 : SameX s H H12 := x06.trans (x611.trans x12)
      refine ⟨_, rfl, e, v, 6, none, rfl, rfl, hev12, hge, fun H13 s13 => ⟨_, _, rfl, rfl, _, rfl, ?_⟩⟩
      by_cases hc : (e.cnt : Int) ≤ 24
      · rw [decide_eq_true hc]
        exact iteT ⟨_, rfl, q e v H13 (x012.trans (SameX.of s13)) (S12.same s13) (rE_ts (TS.of s13) _ _ hev12) ⟨hge, by omega, by omega⟩ hle⟩
      · rw [decide_eq_false hc]
        exact iteF ⟨_, rfl, q W wv H13 (x012.trans (SameX.of s13)) (S12.same s13) (rE_ts (TS.of s13) _ _ hW12) ⟨kW.good.le (by decide), by have := kW.len; omega, by have := kW.cnt; omega⟩ kW.len⟩
    · -- ('or', tuple of letters)
      have h2 : 1 < many := of_decide_eq_true hc
      refine ⟨_, rfl, _, rfl, by omega, by omega, fun D3 hD3 => ?_⟩
      obtain ⟨nFs, nFl⟩ := S5.ne hD3
      refine lc_by (wk_rng (n := many) (S := fun _ => True)) (fun i H6 => SameX s H5 H6 ∧ StreamAt s l H6 ∧ ∃ bs : List Bool, H6 D3 = some (.lst (bs.map bV)) ∧ bs.length = i) (fun _ _ _ => trivial)
        ⟨SameX.of (same_new hD3 _), S5.same (same_new hD3 _), [], upd_same, rfl⟩ ?_ ?_
      · rintro i x H6 hi ⟨x6, S6, cs, hcs, hlen2⟩
        have hin : i < many := by
          have h1 := (List.getElem?_eq_some_iff.mp hi).1
          rw [List.length_map, List.length_range] at h1
          exact h1
        refine ⟨rfl, yesT (iteT ⟨_, rfl, _, rfl, sOf ls, rfl, hlz, fun L2 hL2 => ?_⟩)⟩
        have s7 := same_new hL2 (.lst ((sOf ls).cps.toList.map fun c => V.str ⟨#[c]⟩))
        refine ⟨s, l, L2, _, rfl, S6.same s7, upd_same, (S6.ne hL2).1, by rw [let_len]; exact hls0, by rw [let_len]; omega, fun v H7 hv x7 S7 => ?_⟩
        obtain ⟨b, rfl⟩ := let_of hv
        refine ⟨cs.map bV, x7 _ _ nFs (s7 _ _ hcs), by rw [List.length_map, hlen2]; exact Nat.lt_of_lt_of_le (by omega : i < 7) (by decide), (x6.trans ((SameX.of s7).trans x7)).mut hD3, S7.mut nFs nFl, cs ++ [b], ?_, by rw [List.length_append, hlen2]; rfl⟩
        rw [upd_same, List.map_append]
        rfl
      rintro H6 ⟨x6, S6, cs, hcs, hlen2⟩
      rw [List.length_map, List.length_range] at hlen2
      refine ⟨D3, _, rfl, hcs, fun t ht => ⟨by show 2 ≤ sizeLine; decide, fun t2 ht2 => ?_⟩⟩
      have s7 := same_new ht (.tup (cs.map bV))
      have h7 : upd H6 t (.tup (cs.map bV)) t = some (.tup (cs.map bV)) := upd_same
      generalize upd H6 t (.tup (cs.map bV)) = H7 at s7 h7 ht2 ⊢
      have s8 := same_new ht2 (.tup [.str "or", .ref t])
      refine kk (.ro true (cs.map fun b => .lf (some b))) (.ref t2) _ (x6.trans (SameX.of (s7.trans s8))) (S6.same (s7.trans s8)) ⟨t2, t, cs.map bV, rfl, upd_same, s8 _ _ h7, rEs_of ?_⟩ (wok_row true (lfs_sm cs) (by rw [List.length_map]; omega) (by rw [List.length_map]; omega))
      have hg : ∀ (cs : List Bool) (H : Hp), Paired (fun e u => rE e u H) (cs.map fun b => Ex.lf (some b)) (cs.map bV) := fun cs H => by
        induction cs with
        | nil => exact .nil
        | cons b r ih => exact .cons rfl ih
      exact hg cs _
    · exact kk (.lf (some false)) (.str "a") H5 (SameX.refl _ _) S5 (congrArg V.str sOf_a) (wok_one ⟨false, .inl rfl⟩)
  · -- ('join', tuple(row))
    have h2 : 1 < many := of_decide_eq_true hc
    refine ⟨_, rfl, D2, ys, rfl, hys, fun t ht => ⟨by show 2 ≤ sizeLine; decide, fun t2 ht2 => ?_⟩⟩
    have s7 := same_new ht (.tup ys)
    have h7 : upd H4 t (.tup ys) t = some (.tup ys) := upd_same
    generalize upd H4 t (.tup ys) = H7 at s7 h7 ht2 ⊢
    have s8 := same_new ht2 (.tup [.str "join", .ref t])
    exact kk (.ro false es) (.ref t2) _ (SameX.of (s7.trans s8)) (S4.same (s7.trans s8)) ⟨t2, t, ys, rfl, upd_same, s8 _ _ h7, rEs_of (pr_imp hpr fun _ _ _ r => rE_ts (TS.of (s7.trans s8)) _ _ r)⟩ (wok_row false hsm (by omega) (by omega))
  · have h2 : 0 < es.length := by omega
    have hy : ys[0]? = some (ys[0]'(by omega)) := List.getElem?_eq_getElem _
    obtain ⟨e, he, hre⟩ := pr_get hpr hy
    exact ⟨_, rfl, D2, _, 0, _, rfl, rfl, hys, hy, kk e _ H4 (SameX.refl _ _) S4 hre (wok_one (hsm e (List.mem_of_getElem? he)))⟩
end
end K65
end

section
set_option Elab.async false
set_option linter.all false
set_option maxRecDepth 100000
set_option maxHeartbeats 8000000
/-! The law itself. -/
namespace K65
open PySem L2
open PyProof.Rows (envOfC)

theorem Least.uniq {A : Nat → Nat → Bool} {n k k' : Nat} {x x' : List Nat} (h : Least A n k x) (h' : Least A n k' x') : k = k' ∧ x = x' := by
  have a : ¬ k < k' := fun z => by
    have h1 := h'.least k h.pos z
    have h2 := h.head
    rw [h1] at h2
    cases h2
  have b : ¬ k' < k := fun z => by
    have h1 := h.least k' h'.pos z
    have h2 := h'.head
    rw [h1] at h2
    cases h2
  have e : k = k' := by omega
  subst e
  exact ⟨rfl, Option.some.inj (h.head.symm.trans h'.head)⟩
theorem col_good {e : Ex} {m : Nat} {x : List Nat} (hx : ExOk e) (hm : m ≤ 8) (h : x ∈ cols (adjB e) m e.lets.length) : x.length = e.lets.length ∧ (∀ i ∈ x, i < 8) ∧ ∀ q, Confl e q → x[q.1]? ≠ x[q.2]? := by
  obtain ⟨h1, h2⟩ := (mem_cols _).mp h
  refine ⟨h1, fun i hi => ?_, fun q hq he => ?_⟩
  · obtain ⟨p, hp⟩ := List.getElem?_of_mem hi
    have hpl := (List.getElem?_eq_some_iff.mp hp).1
    obtain ⟨c, hc, hck, _⟩ := h2 p (by omega)
    rw [hp] at hc
    have e1 := Option.some.inj hc
    omega
  · obtain ⟨l1, l2⟩ := confl_low hx hq
    obtain ⟨c, hc, _, ho⟩ := h2 q.2 l2
    have hlt : q.1 < q.2 := hq.1
    exact ho q.1 hlt (adjB_iff.mpr (.inr hq)) (he.trans hc)
/-- is every place coloured unlike its neighbours -/
def dueB (near : List (List Nat)) (cs : List Nat) : Bool := ((List.range near.length).map fun i => (((near[i]?).getD []).map fun o => !decide (cs[o]? = cs[i]?)).all id).all id
theorem due_iff {e : Ex} {near : List (List Nat)} {cs : List Nat} (hx : ExOk e) (ok : NearOk (adjB e) e.lets.length near) : dueB near cs = true ↔ ∀ q, Confl e q → cs[q.1]? ≠ cs[q.2]? := by
  unfold dueB
  rw [List.all_map, List.all_eq_true]
  constructor
  · intro h q hq he
    obtain ⟨l1, l2⟩ := confl_low hx hq
    have h1 := h q.2 (List.mem_range.mpr (by rw [ok.len]; exact l2))
    have hg : near[q.2]? = some (near[q.2]'(by rw [ok.len]; exact l2)) := List.getElem?_eq_getElem _
    have hm := (ok.mem _ _ hg q.1).mpr (adjB_iff.mpr (.inr hq))
    have h1 : (((near[q.2]?).getD []).map fun o => !decide (cs[o]? = cs[q.2]?)).all id = true := h1
    rw [hg, List.all_map, List.all_eq_true] at h1
    have h2 : (!decide (cs[q.1]? = cs[q.2]?)) = true := h1 q.1 hm
    rw [decide_eq_true he] at h2
    cases h2
  · intro h i hi
    have hil := List.mem_range.mp hi
    have hg : near[i]? = some near[i] := List.getElem?_eq_getElem hil
    show (((near[i]?).getD []).map fun o => !decide (cs[o]? = cs[i]?)).all id = true
    rw [hg, List.all_map, List.all_eq_true]
    intro o ho
    have ha := (ok.mem _ _ hg o).mp ho
    have hne : cs[o]? ≠ cs[i]? := by
      rcases adjB_iff.mp ha with c | c
      · exact fun z => h _ c z.symm
      · exact h _ c
    show (!decide (cs[o]? = cs[i]?)) = true
    rw [decide_eq_false hne]
    rfl
theorem eq_told {H : Hp} {p1 p2 a b : Addr} {m : Nat} {x : List Nat} (h1 : H p1 = some (.lst [vN m, .ref a])) (h2 : H p2 = some (.lst [vN m, .ref b])) (ha : H a = some (.tup (x.map vN))) (hb : H b = some (.tup (x.map vN))) (hl : x.length ≤ 1000) : EqD 3 (.ref p1) (.ref p2) H := by
  have hs : ∀ l : List Nat, Paired (fun a b => EqD 1 a b H) (l.map vN) (l.map vN) := fun l => by
    induction l with
    | nil => exact .nil
    | cons a r ih => exact .cons (.inl ⟨_, rfl, rfl⟩) ih
  exact .inr (.inr ⟨p1, p2, _, _, rfl, rfl, .inr ⟨h1, h2⟩, .cons (.inl ⟨_, rfl, rfl⟩) (.cons (.inr (.inr ⟨a, b, _, _, rfl, rfl, .inl ⟨ha, hb⟩, hs x, by rw [List.length_map]; exact hl⟩)) .nil), by show 2 ≤ 1000; decide⟩)
theorem eq_bools {H : Hp} {p1 p2 : Addr} {r : Bool} (h1 : H p1 = some (.lst [.bl r, .bl true])) (h2 : H p2 = some (.lst [.bl r, .bl true])) : EqD 3 (.ref p1) (.ref p2) H :=
  .inr (.inr ⟨p1, p2, _, _, rfl, rfl, .inr ⟨h1, h2⟩, .cons (.inr (.inl ⟨_, rfl, rfl⟩)) (.cons (.inr (.inl ⟨_, rfl, rfl⟩)) .nil), by show 2 ≤ 1000; decide⟩)
theorem SepV.sx {e : Ex} {s l : Addr} {H H' : Hp} {x : V} {r : Bool} (h : SepV e H x r) (S : StreamAt s l H) (t : SameX s H H') (hne : x ≠ .ref s) : SepV e H' x r := by
  have ts := S.ts t
  cases h with
  | kind k1 k2 =>
    refine .kind ?_ k2
    cases k1 with
    | non => exact .non
    | bl b => exact .bl b
    | int i => exact .int i
    | str z => exact .str z
    | tup h => exact .tup (ts _ _ h)
    | lst h => exact .lst (t _ _ (fun z => hne (by rw [z])) h)
  | len h1 h2 => exact .len (ts _ _ h1) h2
  | bad h1 h2 h3 h4 => exact .bad (ts _ _ h1) h2 h3 h4
  | good h1 h2 h3 h4 => exact .good (ts _ _ h1) h2 h3 h4
theorem tup_of {c : Bool} {n : Nat} {σ : St} {H : Hp} {t1 t2 : TE} {Q : VK} (k : ∀ (p : Addr) (zs : List V) (H' : Hp), Same H H' → H' p = some (.tup zs) → zs.length ≠ n → Q (.ref p) H')
    (h1 : c = true → (∀ (p : Addr) (zs : List V) (H' : Hp), Same H H' → H' p = some (.tup zs) → zs.length ≠ n → Q (.ref p) H') → t1 σ H Q)
    (h2 : c = false → (∀ (p : Addr) (zs : List V) (H' : Hp), Same H H' → H' p = some (.tup zs) → zs.length ≠ n → Q (.ref p) H') → t2 σ H Q) : if c = true then t1 σ H Q else t2 σ H Q := by
  cases c with
  | true => exact iteT (h1 rfl k)
  | false => exact iteF (h2 rfl k)
theorem at_of {c : Bool} {n : Nat} {s l : Addr} {σ : St} {H : Hp} {t1 t2 : TE} {Q : VK} (k : ∀ (i : Nat) (H' : Hp), (c = true → i < n) → SameX s H H' → StreamAt s l H' → Q (vN i) H')
    (h1 : c = true → (∀ (i : Nat) (H' : Hp), i < n → SameX s H H' → StreamAt s l H' → Q (vN i) H') → t1 σ H Q)
    (h2 : c = false → (∀ (i : Nat) (H' : Hp), SameX s H H' → StreamAt s l H' → Q (vN i) H') → t2 σ H Q) : if c = true then t1 σ H Q else t2 σ H Q := by
  cases c with
  | true => exact iteT (h1 rfl fun i H' a b d => k i H' (fun _ => a) b d)
  | false => exact iteF (h2 rfl fun i H' b d => k i H' (fun z => (nomatch z)) b d)
theorem ext_of {c : Bool} {ta : L2.TS} {D : Ends} {σ : St} {H : Hp} (G : Hp → Prop) (k : ∀ H', G H' → D.nx σ H') (h1 : c = true → (∀ H', G H' → D.nx σ H') → ta D σ H) (h2 : c = false → G H) : if c = true then ta D σ H else tNext D σ H := by
  cases c with
  | true => exact iteT (h1 rfl k)
  | false => exact iteF (k H (h2 rfl))
theorem cut_lo (xs : List V) (i : Nat) (h : i ≤ xs.length) : cutV xs (some (i : Int)) none = xs.drop i := by
  unfold cutV
  rw [HT.sIx_nat, HT.sIx_none, Nat.min_eq_left h, List.take_of_length_le (by rw [List.length_drop]; exact Nat.le_refl _)]
theorem cut_hi (xs : List V) (i : Nat) (h : i ≤ xs.length) : cutV xs none (some (i : Int)) = xs.take i := by
  unfold cutV
  rw [HT.sIx_nat, HT.sIx_none, Nat.min_eq_left h, List.drop_zero, Nat.sub_zero]
def spLaw (K : PySem.W.Frag) : Sp := fun vs H Q _ => ∃ (a : Addr) (ns : List Int), vs = [.ref a] ∧ SqL K H a (ns.map V.int) ∧ ∀ H', Q (.bl true) H'

section
variable {P : Program} {w : World} {K : PySem.W.Frag} {mg : Str → Option Value} {base : Heap} {k : Nat} {f : Addr} {fd : FuncData}
abbrev s_law : Stmt := top 54
theorem sc_law : FnScope ["_law_script", "_law_stream_here", "_law_expression", "_law_near_here", "_law_many", "_law_turn", "_law_rows", "_law_coloring", "_law_due", "_law_some", "_law_at", "_law_wrong", "_law_place", "_law_other", "_law_odd"] ["_law_script"] (defScope s_law) := ⟨rfl, rfl, rfl, by decide +kernel, rfl, by decide +kernel, by decide +kernel⟩
theorem ok_law {p1 p2 p3 p4 p5 p6 p7 p8 p9 p10 : List Str} (T : Txt K mg) (F : Fun K "law" "law" s_law f fd) (C_law_stream : Cd P w K mg base k "_law_stream" p1 (spStream K)) (C_law_crossing : Cd P w K mg base k "_law_crossing" p2 spCross) (C_law_near : Cd P w K mg base k "_law_near" p3 spLNear)
    (C_law_colorings : Cd P w K mg base k "_law_colorings" p4 spCols) (C_law_equal : Cd P w K mg base k "_law_equal" p5 (spEq 3)) (Ccolor_number : Cd P w K mg base k "color_number" p6 spNumC) (Ctold_coloring : Cd P w K mg base k "told_coloring" p7 spColoring)
    (C_law_next : Cd P w K mg base k "_law_next" p8 spNext) (C_law_pick : Cd P w K mg base k "_law_pick" p9 spPick) (Cseparates : Cd P w K mg base k "separates" p10 spSep) : FnOk P w K mg base CX0 (k + 1) f fd ["_law_script"] (spLaw K) := by
  have nd := sc_law.nd
  refine F.ok sc_law (fun vs H Q E h => ?_) (fun cdv A outer s H vs Q E hr h => ?_)
  · obtain ⟨a, ns, rfl, _⟩ := h
    rfl
  obtain ⟨a, ns, rfl, ha, q⟩ := h
  refine ⟨_, (pss_cons (ps_set (i := 1) nd rfl (Or.inr rfl) (pe_cd C_law_stream hr (by rfl) (pa_cons (pv 0) pa_nil)))
      (pss_cons (ps_set (i := 2) nd rfl (Or.inl rfl) (pe_cd C_law_crossing hr (by rfl) (pa_cons (pv 1) (pa_cons pe_int pa_nil))))
      (pss_cons (ps_set (i := 3) nd rfl (Or.inr rfl) (pe_cd C_law_near hr (by rfl) (pa_cons (pv 2) pa_nil)))
      (pss_cons (ps_set (i := 4) nd rfl (Or.inl rfl) pe_int)
      (pss_cons (ps_for PassesOwn.never rfl (pi_range1 (by rfl) T.z_range (pa_cons pe_int pa_nil)) (pg_name (i := 5) nd rfl (Or.inl rfl)) (pss_one (ps_if (PW.pt (pw_and (pt_cmpR op_eq (pv 4) (pe_op op_add (pv 5) pe_int) (nomark _)) (pw_and1 (pt_not (pt_tru (pe_cd C_law_colorings hr (by rfl) (pa_cons (pv 3) (pa_cons (pv 4) pa_nil)))))))) (pss_one (ps_set (i := 4) nd rfl (Or.inl rfl) (pe_op op_add (pv 4) pe_int))) pss_nil)))
      (pss_cons (ps_set (i := 6) nd rfl (Or.inr rfl) (pe_cd C_law_colorings hr (by rfl) (pa_cons (pv 3) (pa_cons (pv 4) pa_nil))))
      (pss_cons (ps_if (pt_not (pt_val (pe_cd C_law_equal hr (by rfl) (pa_cons (pe_lst (pa_cons (pe_cd Ccolor_number hr (by rfl) (pa_cons (pv 2) pa_nil)) (pa_cons (pe_cd Ctold_coloring hr (by rfl) (pa_cons (pv 2) pa_nil)) pa_nil))) (pa_cons (pe_lst (pa_cons (pv 4) (pa_cons (pe_ix it_list (pv 6) pe_int (fun _ _ => rfl)) pa_nil))) pa_nil))))) (pss_one (ps_ret pe_bl)) pss_nil)
      (pss_cons (ps_if (pt_val (pe_callB (cr_any2 rfl) (by rfl) T.z_any (by decide +kernel) (pa_cons (pe_lc (own := [("_law_place", 12)]) (g := gName 12) rfl nd (pi_range1 (by rfl) T.z_range (pa_cons (pe_callB call_len2 (by rfl) T.z_len (by decide +kernel) (pa_cons (pv 3) pa_nil)) pa_nil)) (blkOk_by (own := [("_law_place", 12)]) (by kernel_rfl)) (fun _ _ _ _ _ => pg_name (i := 12) nd rfl (Or.inl rfl)) (fun _ _ _ _ _ => pts_one (pt_not (pt_tru (pe_ix it_list (pv 3) (pv 12) (fun _ _ => rfl))))) (fun _ _ _ _ _ => (pe_cmpR op_ne (pe_ix it_tup (pe_ix it_list (pv 6) pe_int (fun _ _ => rfl)) (pv 12) (fun _ _ => rfl)) pe_int (nomark _)))) pa_nil))) (pss_one (ps_ret pe_bl)) pss_nil)
      (pss_cons (ps_for PassesOwn.never rfl (pi_range1 (by rfl) T.z_range (pa_cons pe_int pa_nil)) (pg_name (i := 5) nd rfl (Or.inl rfl)) (pss_cons (ps_set (i := 7) nd rfl (Or.inr rfl) (pe_callTy call_tuple2 (by rfl) T.z_tuple (by decide +kernel) (pa_cons (pe_lc (own := [("_law_place", 12)]) (g := gName 12) (tt := tYes) rfl nd (pi_L (pv 3)) (blkOk_by (own := [("_law_place", 12)]) (by kernel_rfl)) (fun _ _ _ _ _ => pg_name (i := 12) nd rfl (Or.inl rfl)) (fun _ _ _ _ _ => pts_nil) (fun _ _ _ _ _ => (pe_cd C_law_next hr (by rfl) (pa_cons (pv 1) (pa_cons (pe_cd C_law_pick hr (by rfl) (pa_cons (pv 1) (pa_cons (pe_lst (pa_cons pe_int (pa_cons pe_int (pa_cons pe_int pa_nil)))) pa_nil))) pa_nil))))) pa_nil)))
        (pss_cons (ps_set (i := 8) nd rfl (Or.inl rfl) (pe_callB (cr_all2 rfl) (by rfl) T.z_all (by decide +kernel) (pa_cons (pe_lc (own := [("_law_place", 12)]) (g := gName 12) (tt := tYes) rfl nd (pi_range1 (by rfl) T.z_range (pa_cons (pe_callB call_len2 (by rfl) T.z_len (by decide +kernel) (pa_cons (pv 3) pa_nil)) pa_nil)) (blkOk_by (own := [("_law_place", 12)]) (by kernel_rfl)) (fun _ _ _ _ _ => pg_name (i := 12) nd rfl (Or.inr rfl)) (fun _ _ _ _ _ => pts_nil) (fun _ _ _ _ _ => (pe_callB (cr_all2 rfl) (by rfl) T.z_all (by decide +kernel) (pa_cons (pe_lc (own := [("_law_other", 13)]) (g := gName 13) (tt := tYes) rfl nd (pi_L (pe_ix it_list (pv 3) (pv 12) (fun _ _ => rfl))) (blkOk_by (own := [("_law_other", 13)]) (by kernel_rfl)) (fun _ _ _ _ _ => pg_name (i := 13) nd rfl (Or.inl rfl)) (fun _ _ _ _ _ => pts_nil) (fun _ _ _ _ _ => (pe_cmpR op_ne (pe_ix it_tup (pv 7) (pv 13) (fun _ _ => rfl)) (pe_ix it_tup (pv 7) (pv 12) (fun _ _ => rfl)) (nomark _)))) pa_nil)))) pa_nil)))
        (pss_one (ps_if (pt_not (pt_val (pe_cd C_law_equal hr (by rfl) (pa_cons (pe_lst (pa_cons (pe_cd Cseparates hr (by rfl) (pa_cons (pv 2) (pa_cons (pv 7) pa_nil))) (pa_cons (pe_cd Cseparates hr (by rfl) (pa_cons (pv 2) (pa_cons (pe_cd C_law_pick hr (by rfl) (pa_cons (pv 1) (pa_cons (pv 6) pa_nil))) pa_nil))) pa_nil))) (pa_cons (pe_lst (pa_cons (pv 8) (pa_cons pe_bl pa_nil))) pa_nil))))) (pss_one (ps_ret pe_bl)) pss_nil)))))
      (pss_cons (ps_set (i := 9) nd rfl (Or.inr rfl) (pe_ix it_list (pv 6) pe_int (fun _ _ => rfl)))
      (pss_cons (ps_set (i := 10) nd rfl (Or.inr rfl) (pe_ifExp (pt_tru (pv 9)) (pe_cd C_law_next hr (by rfl) (pa_cons (pv 1) (pa_cons (pe_callB call_len2 (by rfl) T.z_len (by decide +kernel) (pa_cons (pv 9) pa_nil)) pa_nil))) pe_int))
      (pss_cons (ps_set (i := 11) nd rfl (Or.inl rfl) (pe_lst (pa_cons pe_non (pa_cons (pe_callTy call_list2 (by rfl) T.z_list (by decide +kernel) (pa_cons (pv 9) pa_nil)) (pa_cons (pe_op op_cat2 (pv 9) (pe_tup (pa_cons pe_int pa_nil))) (pa_cons (pe_ifExp (pt_tru (pv 9)) (pe_slice sl_tup2 (pv 9) (po_some pe_int) po_none) (pe_tup (pa_cons pe_int pa_nil))) (pa_cons pe_str (pa_cons pe_int pa_nil))))))))
      (pss_cons (ps_if (pt_tru (pv 9)) (pss_one (ps_expr (pe_bm PySem.F.plainAttrs_list PySem.F.slot_list_extend PySem.F.type_list_extend mt_extend (pv 11) (pa_cons (pe_lc (own := [("_law_odd", 14)]) (g := gName 14) (tt := tYes) rfl nd (pi_L (pe_lst (pa_cons pe_int (pa_cons (pe_un un_neg pe_int) (pa_cons pe_non (pa_cons pe_bl (pa_cons pe_str (pa_cons (pe_op op_add (pe_ix it_tup (pv 9) (pv 10) (fun _ _ => rfl)) pe_int) pa_nil)))))))) (blkOk_by (own := [("_law_odd", 14)]) (by kernel_rfl)) (fun _ _ _ _ _ => pg_name (i := 14) nd rfl (Or.inl rfl)) (fun _ _ _ _ _ => pts_nil) (fun _ _ _ _ _ => (pe_op op_cat2 (pe_op op_cat2 (pe_slice sl_tup2 (pv 9) po_none (po_some (pv 10))) (pe_tup (pa_cons (pv 14) pa_nil))) (pe_slice sl_tup2 (pv 9) (po_some (pe_op op_add (pv 10) pe_int)) po_none)))) pa_nil)))) pss_nil)
      (pss_one (ps_ret (pe_cmpR op_isBl (pe_cd Cseparates hr (by rfl) (pa_cons (pv 2) (pa_cons (pe_cd C_law_pick hr (by rfl) (pa_cons (pv 1) (pa_cons (pv 11) pa_nil))) pa_nil))) pe_bl (nomark _))))))))))))))))), ?_⟩
  refine ⟨_, rfl, a, ns, rfl, ha, fun s l H1 s1 S1 => ?_⟩
  refine ⟨_, rfl, s, l, rfl, S1, fun e v H2 x2 S2 hv hx h6 => ?_⟩
  refine ⟨_, rfl, e, v, rfl, hv, hx, fun D near H3 s3 hN ok hrow => ?_⟩
  obtain ⟨os, hs2⟩ := S2.at
  obtain ⟨as, hDs, hR, hDn, hasn⟩ := hN
  have S3 := S2.same s3
  have nD : D ≠ s := (ne_of_none hs2 hDn).symm
  have fD : ∀ H', SameX s H3 H' → H' D = some (.lst (as.map V.ref)) := fun H' x => x _ _ nD hDs
  have fR : ∀ H', SameX s H3 H' → Rows as near H' := fun H' x => ⟨hR.1, fun i b m hb hm => x _ _ (ne_of_none hs2 (hasn b (List.mem_of_getElem? hb))).symm (hR.2 i b m hb hm)⟩
  have fN : ∀ H', SameX s H3 H' → rNear near D H' := fun H' x => ⟨as, fD H' x, fR H' x⟩
  have fV : ∀ H', SameX s H3 H' → rE e v H' := fun H' x => rE_ts (S3.ts x) _ _ (rE_ts (TS.of s3) _ _ hv)
  have irr : ∀ p o, adjB e p o = true → p ≠ o := fun p o h => adjB_irr h
  have eN : (as.map V.ref).length = e.lets.length := by rw [List.length_map, hR.1, ok.len]
  have h7 : e.lets.length ≤ 7 := by omega
  -- the least number
  refine ⟨_, rfl, by decide, by decide, ?_⟩
  refine for_by (wk_rng (n := 7) (S := fun _ => True))
    (fun i σ H4 => ∃ (m : Nat) (y5 : Option V), σ = [some (.ref a), some (.ref s), some v, some (.ref D), some (vN m), y5, none, none, none, none, none, none, none, none, none] ∧ Same H3 H4 ∧ 1 ≤ m ∧ m ≤ i + 1 ∧ (∀ j, 1 ≤ j → j < m → cols (adjB e) j e.lets.length = []) ∧ (m ≤ i → cols (adjB e) m e.lets.length ≠ []))
    (fun _ _ _ _ => trivial) ⟨1, none, rfl, Same.refl _, Nat.le_refl _, Nat.le_refl _, fun j h1 h2 => by omega, fun h => by omega⟩ ?_ ?_
  · rintro i x σ H4 hi ⟨m, y5, rfl, s4, hm1, hmi, hno, hyes⟩
    obtain ⟨i', hi', rfl⟩ := pr_get (nat_pr _) hi
    have hin : i < 7 := by
      have h1 := (List.getElem?_eq_some_iff.mp hi).1
      rw [List.length_map, List.length_range] at h1
      exact h1
    have ei : i' = i := by
      rw [List.getElem?_range hin] at hi'
      exact (Option.some.inj hi').symm
    subst ei
    refine ⟨_, rfl, _, rfl, _, _, rfl, rfl, rfl, _, rfl, ?_⟩
    rw [show decide (V.int (m : Int) = V.int ((i' : Int) + 1)) = decide (m = i' + 1) from int_eq m (i' + 1)]
    by_cases hmi2 : m = i' + 1
    · rw [decide_eq_true hmi2]
      refine iteT ⟨_, rfl, _, rfl, D, near, _, m, adjB e, rfl, fN _ (SameX.of s4), ok, h6, by omega, irr, hrow, fun c rs H5 s5 hc hcs hpr => ⟨_, ⟨rs, .inl hcs, rfl⟩, ?_⟩⟩
      have hl := hpr.length
      cases rs with
      | nil =>
        have h0 : cols (adjB e) m e.lets.length = [] := List.eq_nil_of_length_eq_zero hl
        refine iteT ⟨_, rfl, _, _, rfl, rfl, ?_⟩
        refine ⟨m + 1, _, rfl, s4.trans s5, by omega, by omega, fun j h1 h2 => ?_, fun h => by omega⟩
        by_cases hj : j < m
        · exact hno j h1 hj
        · have ej : j = m := by omega
          rw [ej]
          exact h0
      | cons r rs =>
        refine iteF ⟨m, _, rfl, s4.trans s5, hm1, by omega, hno, fun _ z => ?_⟩
        rw [z] at hl
        cases hl
    · rw [decide_eq_false hmi2]
      exact iteF (iteF ⟨m, _, rfl, s4, hm1, by omega, hno, fun _ => hyes (by omega)⟩)
  rintro σ H4 ⟨m, y5, rfl, s4, hm1, hm8, hno, hyes⟩
  rw [List.length_map, List.length_range] at hm8 hyes
  have hm7 : m ≤ 7 := by
    by_cases h : m ≤ 7
    · exact h
    · exfalso
      have h1 := hno 7 (by decide) (by omega)
      have h2 := id_cols (A := adjB e) (n := e.lets.length) (k := 7) irr h7
      rw [h1] at h2
      cases h2
  have hne := hyes hm7
  refine ⟨_, rfl, _, rfl, D, near, _, m, adjB e, rfl, fN _ (SameX.of s4), ok, h6, by omega, irr, hrow, fun c rs H5 s5 hc hcs hpr => ?_⟩
  have S4 := S3.same s4
  have S5 := S4.same s5
  have nC : c ≠ s := (S4.ne hc).1
  have x35 : SameX s H3 H5 := SameX.of (s4.trans s5)
  have hgood : ∀ u ∈ rs, ∃ x, x ∈ cols (adjB e) m e.lets.length ∧ rNs x u H5 := fun u hu => by
    obtain ⟨x, h1, h2⟩ := pr_mem hpr hu
    exact ⟨x, h1, h2⟩
  obtain ⟨x0, r0, hx0, hr0, hrs0⟩ : ∃ (x0 : List Nat) (r0 : Addr), (cols (adjB e) m e.lets.length).head? = some x0 ∧ H5 r0 = some (.tup (x0.map vN)) ∧ rs[0]? = some (.ref r0) := by
    cases hcl : cols (adjB e) m e.lets.length with
    | nil => exact absurd hcl hne
    | cons x xs =>
      rw [hcl] at hpr
      cases hpr with
      | cons h t =>
        obtain ⟨p, rfl, hp⟩ := h
        exact ⟨x, p, rfl, hp, rfl⟩
  have hrsp : 0 < rs.length := (List.getElem?_eq_some_iff.mp hrs0).1
  have hx0m : x0 ∈ cols (adjB e) m e.lets.length := List.mem_of_mem_head? (by rw [hx0]; rfl)
  have hL : Least (adjB e) e.lets.length m x0 := ⟨hm1, hm7, hx0, hno⟩
  obtain ⟨hx0l, hx08, _⟩ := col_good hx (by omega : m ≤ 8) hx0m
  have hrsl : rs.length < 1073741824 := by
    have h1 := hpr.length
    have h2 := len_cols (A := adjB e) (k := m) (by omega) e.lets.length
    have h3 : (8 : Nat) ^ e.lets.length ≤ 8 ^ 6 := Nat.pow_le_pow_right (by decide) h6
    have h4 : (8 : Nat) ^ 6 = 262144 := by decide
    omega
  have fC : ∀ H', SameX s H5 H' → H' c = some (.lst rs) := fun H' x => x _ _ nC hcs
  have fT : ∀ H', SameX s H5 H' → TS H5 H' := fun H' x => S5.ts x
  -- the program's number and coloring are the law's
  refine ⟨_, rfl, e, v, rfl, fV _ x35, hx, h7, fun kk xx H6 s6 L1 => ?_⟩
  obtain ⟨e1, e2⟩ := L1.uniq hL
  subst e1 e2
  refine ⟨_, rfl, e, v, rfl, fV _ (x35.trans (SameX.of s6)), hx, h7, fun kk2 x2' a2 H7 s7 ha2 L2 => ?_⟩
  obtain ⟨e1, e2⟩ := L2.uniq hL
  subst e1 e2
  refine ⟨by show 2 ≤ sizeLine; decide, fun q1 hq1 => ?_⟩
  have s8 := same_new hq1 (.lst [vN kk2, .ref a2])
  have h8 : upd H7 q1 (.lst [vN kk2, .ref a2]) q1 = _ := upd_same
  generalize upd H7 q1 (.lst [vN kk2, .ref a2]) = H8 at s8 h8 ⊢
  have s58 := s6.trans (s7.trans s8)
  refine ⟨_, rfl, _, rfl, c, _, 0, _, rfl, rfl, fC _ (SameX.of s58), hrs0, by show 2 ≤ sizeLine; decide, fun q2 hq2 => ?_⟩
  have s9 := same_new hq2 (.lst [vN kk2, .ref r0])
  have h9 : upd H8 q2 (.lst [vN kk2, .ref r0]) q2 = _ := upd_same
  generalize upd H8 q2 (.lst [vN kk2, .ref r0]) = H9 at s9 h9 ⊢
  refine ⟨_, _, rfl, eq_told (s9 _ _ h8) h9 (s9 _ _ (s8 _ _ ha2)) ((s58.trans s9) _ _ hr0) (by omega), fun H10 s10 => ⟨_, rfl, iteF ?_⟩⟩
  have x10 : SameX s H5 H10 := SameX.of (s58.trans (s9.trans s10))
  have S10 : StreamAt s l H10 := S5.same (s58.trans (s9.trans s10))
  have hr10 := fT _ x10 _ _ hr0
  -- places without a neighbour
  refine ⟨_, rfl, D, _, rfl, .inl (fD _ (x35.trans x10)), _, rfl, by omega, by omega, fun D1 hD1 => ?_⟩
  refine lc_fun (R := fun n v => v = vN n) (l := List.range (as.map V.ref).length) hD1 (wk_rng (n := (as.map V.ref).length)) (nat_pr _) (by rw [List.length_range]; omega) (fun i => decide (near[i]? = some [])) (fun _ => .bl false) (fun i u H11 hi hRi s11 Ky Kn k1 k0 => ?_) (fun H11 s11 hD11 => ?_)
  · subst hRi
    have hin : i < e.lets.length := by have := List.mem_range.mp hi; omega
    have x11 := x10.trans (SameX.of s11)
    obtain ⟨na, nm, hna, hnm, hnA⟩ := rNear_get (fD _ (x35.trans x11)) (fR _ (x35.trans x11)) (i := i) (by rw [ok.len]; exact hin)
    refine ⟨rfl, _, rfl, _, rfl, D, _, i, .ref na, rfl, rfl, fD _ (x35.trans x11), hna, _, ⟨_, .inl hnA, rfl⟩, ?_⟩
    cases nm with
    | nil =>
      have hz : x2'[i]? = some 0 := first_zero _ hx0 (fun o => by
        have h1 : adjB e i o = false := by
          cases hb : adjB e i o with
          | false => rfl
          | true => exact absurd ((ok.mem _ _ hnm o).mpr hb) (by simp)
        exact ⟨h1, by rw [adjB_sym]; exact h1⟩) hin
      exact iteT ⟨_, rfl, c, _, 0, _, rfl, rfl, fC _ x11, hrs0, _, rfl, r0, _, i, vN 0, rfl, rfl, s11 _ _ hr10, (by rw [List.getElem?_map, hz]; rfl), rfl, k1 _ (decide_eq_true hnm) (Same.refl _)⟩
    | cons o nm => exact iteF (k0 _ (decide_eq_false (by rw [hnm]; simp)) (Same.refl _))
  have hany : H11 D1 = some (.lst ((((List.range (as.map V.ref).length).filter fun i => decide (near[i]? = some [])).map fun _ => false).map V.bl)) := by rw [hD11, List.map_map]; rfl
  refine ⟨D1, _, rfl, hany, _, rfl, ?_⟩
  rw [show ((((List.range (as.map V.ref).length).filter fun i => decide (near[i]? = some [])).map fun _ => false).any id) = false from by rw [List.any_map]; exact List.any_eq_false.mpr fun _ _ => by show ¬ (id false = true); decide]
  refine iteF ?_
  have x11 := x10.trans (SameX.of s11)
  have S11 := S10.same s11
  -- four colorings
  refine ⟨_, rfl, by decide, by decide, ?_⟩
  refine for_by (wk_rng (n := 4) (S := fun _ => True))
    (fun i σ H12 => ∃ (y5 y7 y8 : Option V), σ = [some (.ref a), some (.ref s), some v, some (.ref D), some (vN kk2), y5, some (.ref c), y7, y8, none, none, none, none, none, none] ∧ SameX s H5 H12 ∧ StreamAt s l H12)
    (fun _ _ _ _ => trivial) ⟨_, _, _, rfl, x11, S11⟩ ?_ ?_
  · rintro i x σ H12 _ ⟨y5, y7, y8, rfl, x12, S12⟩
    refine ⟨_, rfl, D, _, rfl, fD _ (x35.trans x12), fun K1 D2 hD2 => ?_⟩
    obtain ⟨nEs, nEl⟩ := S12.ne hD2
    refine lc_by (wk_lst fun H13 (x13 : SameX s H12 H13) => fD _ (x35.trans (x12.trans x13))) (fun i H13 => SameX s H12 H13 ∧ StreamAt s l H13 ∧ ∃ cs : List Nat, H13 D2 = some (.lst (cs.map vN)) ∧ cs.length = i ∧ ∀ y ∈ cs, y < 8) (fun _ _ h => h.1)
      ⟨SameX.of (same_new hD2 _), S12.same (same_new hD2 _), [], upd_same, rfl, fun _ h => (nomatch h)⟩ ?_ ?_
    · rintro i x H13 hi ⟨x13, S13, cs, hcs13, hlen, hc8⟩
      have hin : i < e.lets.length := by
        have h1 := (List.getElem?_eq_some_iff.mp hi).1
        omega
      refine ⟨rfl, yesT (iteT ⟨_, rfl, _, rfl, by show 3 ≤ sizeLine; decide, fun L hL => ?_⟩)⟩
      have s14 := same_new hL (.lst [.int 2, .int 3, .int 8])
      refine ⟨s, l, L, _, rfl, S13.same s14, upd_same, (S13.ne hL).1, by show 0 < 3; decide, by show 3 < 1073741824; decide, fun v14 H14 hv14 x14 S14 => ?_⟩
      obtain ⟨m14, rfl, hm0, hm8'⟩ : ∃ m14 : Nat, v14 = vN m14 ∧ 0 < m14 ∧ m14 ≤ 8 := by
        simp only [List.mem_cons, List.not_mem_nil, or_false] at hv14
        rcases hv14 with h | h | h
        · exact ⟨2, h, by decide, by decide⟩
        · exact ⟨3, h, by decide, by decide⟩
        · exact ⟨8, h, by decide, by decide⟩
      refine ⟨s, l, m14, rfl, S14, hm0, by omega, fun d H15 hd x15 S15 => ?_⟩
      have x1315 := (SameX.of s14).trans (x14.trans x15)
      refine ⟨cs.map vN, x1315 _ _ nEs hcs13, by rw [List.length_map, hlen]; exact Nat.lt_of_lt_of_le (by omega : i < 8) (by decide), (x13.trans x1315).mut hD2, S15.mut nEs nEl, cs ++ [d], ?_, by rw [List.length_append, hlen]; rfl, fun y hy => ?_⟩
      · rw [upd_same, List.map_append]; rfl
      · rcases List.mem_append.mp hy with h1 | h1
        · exact hc8 y h1
        · rw [List.mem_singleton] at h1
          omega
    rintro H13 ⟨x13, S13, cs, hcs13, hlen, hc8⟩
    have hcl : cs.length = e.lets.length := hlen.trans eN
    refine ⟨D2, _, rfl, hcs13, fun t ht => ?_⟩
    have s14 := same_new ht (.tup (cs.map vN))
    have ht14 : upd H13 t (.tup (cs.map vN)) t = some (.tup (cs.map vN)) := upd_same
    have S14 := S13.same s14
    generalize upd H13 t (.tup (cs.map vN)) = H14 at s14 ht14 S14 ⊢
    have x14 : SameX s H5 H14 := x12.trans (x13.trans (SameX.of s14))
    -- due
    refine ⟨_, rfl, D, _, rfl, .inl (fD _ (x35.trans x14)), _, rfl, by omega, by omega, fun D3 hD3 => ?_⟩
    refine lc_fun (R := fun n v => v = vN n) (l := List.range (as.map V.ref).length) hD3 (wk_rng (n := (as.map V.ref).length)) (nat_pr _) (by rw [List.length_range]; omega) (fun _ => true) (fun i => .bl ((((near[i]?).getD []).map fun o => !decide (cs[o]? = cs[i]?)).all id)) (fun i u H15 hi hRi s15 Ky Kn k1 _ => ?_) (fun H15 s15 hD15 => ?_)
    · subst hRi
      have hin : i < e.lets.length := by have := List.mem_range.mp hi; omega
      have x15 := x14.trans (SameX.of s15)
      obtain ⟨na, nm, hna, hnm, hnA⟩ := rNear_get (fD _ (x35.trans x15)) (fR _ (x35.trans x15)) (i := i) (by rw [ok.len]; exact hin)
      have hnml := hrow nm (List.mem_of_getElem? hnm)
      refine ⟨rfl, yesT (iteT ⟨_, rfl, _, rfl, D, _, i, .ref na, rfl, rfl, fD _ (x35.trans x15), hna, na, _, rfl, hnA, fun K2 D4 hD4 => ?_⟩)⟩
      refine lc_fun (R := fun n v => v = vN n) (l := nm) hD4 (wk_lst fun H16 s16 => s16 _ _ hnA) (nat_pr _) (by omega) (fun _ => true) (fun o => .bl (!decide (cs[o]? = cs[i]?))) (fun o u H16 ho hRo s16 Ky2 Kn2 g1 _ => ?_) (fun H16 s16 hD16 => ?_)
      · subst hRo
        have hol : o < e.lets.length := (adjB_low hx ((ok.mem _ _ hnm o).mp ho)).2
        have ht16 := s16 _ _ (s15 _ _ ht14)
        have go : cs[o]? = some (cs[o]'(by omega)) := List.getElem?_eq_getElem _
        have gi : cs[i]? = some (cs[i]'(by omega)) := List.getElem?_eq_getElem _
        refine ⟨rfl, yesT (iteT ⟨_, rfl, _, rfl, t, _, o, _, rfl, rfl, ht16, (by rw [List.getElem?_map, go]; rfl), _, rfl, _, rfl, t, _, i, _, rfl, rfl, ht16, (by rw [List.getElem?_map, gi]; rfl), rfl, ?_⟩)⟩
        have e3 : decide (vN (cs[o]'(by omega)) = vN (cs[i]'(by omega))) = decide (cs[o]? = cs[i]?) := by
          rw [int_eq, go, gi]
          exact decide_eq_decide.mpr ⟨fun z => by rw [z], fun z => Option.some.inj z⟩
        rw [e3]
        exact g1 _ rfl (Same.refl _)
      · rw [filter_yes] at hD16
        have e5 : nm.map (fun o => V.bl (!decide (cs[o]? = cs[i]?))) = (nm.map fun o => !decide (cs[o]? = cs[i]?)).map V.bl := by rw [List.map_map]; rfl
        rw [e5] at hD16
        have q1 := k1 H16 rfl s16
        rw [hnm] at q1
        exact ⟨D4, _, rfl, hD16, q1⟩
    rw [filter_yes] at hD15
    have hdue : H15 D3 = some (.lst (((List.range near.length).map fun i => (((near[i]?).getD []).map fun o => !decide (cs[o]? = cs[i]?)).all id).map V.bl)) := by
      rw [hD15, List.map_map, List.length_map, hR.1]; rfl
    refine ⟨D3, _, rfl, hdue, ?_⟩
    have hdi := due_iff (cs := cs) hx ok
    rw [show ((List.range near.length).map fun i => (((near[i]?).getD []).map fun o => !decide (cs[o]? = cs[i]?)).all id).all id = dueB near cs from rfl]
    generalize dueB near cs = due at hdi ⊢
    have x15 := x14.trans (SameX.of s15)
    have S15 := S14.same s15
    refine ⟨_, rfl, _, rfl, e, v, .ref t, due, rfl, fV _ (x35.trans x15), hx, .good (s15 _ _ ht14) hcl hc8 hdi, fun H16 s16 => ?_⟩
    have x16 := x15.trans (SameX.of s16)
    have S16 := S15.same s16
    refine ⟨_, rfl, _, rfl, _, rfl, s, l, c, rs, rfl, S16, fC _ x16, nC, hrsp, hrsl, fun u H17 hu x17 S17 => ?_⟩
    have x517 := x16.trans x17
    obtain ⟨xu, hxu, hru⟩ := hgood u hu
    obtain ⟨pu, rfl, hpu⟩ := rNs_ts (fT _ x517) hru
    obtain ⟨g1, g2, g3⟩ := col_good hx (by omega : kk2 ≤ 8) hxu
    refine ⟨e, v, .ref pu, true, rfl, fV _ (x35.trans x517), hx, .good hpu g1 g2 ⟨fun _ => g3, fun _ => rfl⟩, fun H18 s18 => ⟨by show 2 ≤ sizeLine; decide, fun q3 hq3 => ?_⟩⟩
    have s19 := same_new hq3 (.lst [.bl due, .bl true])
    have h19 : upd H18 q3 (.lst [.bl due, .bl true]) q3 = _ := upd_same
    generalize upd H18 q3 (.lst [.bl due, .bl true]) = H19 at s19 h19 ⊢
    refine ⟨_, rfl, by show 2 ≤ sizeLine; decide, fun q4 hq4 => ?_⟩
    have s20 := same_new hq4 (.lst [.bl due, .bl true])
    have h20 : upd H19 q4 (.lst [.bl due, .bl true]) q4 = _ := upd_same
    generalize upd H19 q4 (.lst [.bl due, .bl true]) = H20 at s20 h20 ⊢
    refine ⟨_, _, rfl, eq_bools (s20 _ _ h19) h20, fun H21 s21 => ⟨_, rfl, iteF ?_⟩⟩
    have s1721 := s18.trans (s19.trans (s20.trans s21))
    exact ⟨_, _, _, rfl, x517.trans (SameX.of s1721), S17.same s1721⟩
  rintro σ H12 ⟨y5, y7, y8, rfl, x12, S12⟩
  -- wrong values
  have hX : (x2'.map vN).length = e.lets.length := by rw [List.length_map, hx0l]
  have hXflat : ∀ y ∈ x2'.map vN, flatV y = true := fun y hy => by
    obtain ⟨i, _, rfl⟩ := List.mem_map.mp hy
    rfl
  have hXint : ∀ (i : Nat) (u : V), (x2'.map vN)[i]? = some u → ∃ z : Nat, u = vN z := fun i u hu => by
    obtain ⟨z, _, h1⟩ := List.mem_map.mp (List.mem_of_getElem? hu)
    exact ⟨z, h1.symm⟩
  generalize x2'.map vN = X at hr0 hX hXflat hXint
  have fX : ∀ H', SameX s H5 H' → H' r0 = some (.tup X) := fun H' x => fT _ x _ _ hr0
  refine ⟨_, rfl, c, _, 0, _, rfl, rfl, fC _ x12, hrs0, ?_⟩
  refine ⟨_, rfl, _, ⟨X, .inr (fX _ x12), rfl⟩, ?_⟩
  refine at_of (n := X.length) (s := s) (l := l) (fun at_ H13 hat x13 S13 => ?_) (fun hc kk => ?_) (fun hc kk => kk 0 H12 (SameX.refl _ _) S12)
  rotate_left
  · refine ⟨_, rfl, _, rfl, r0, X, rfl, .inr (fX _ x12), s, l, X.length, rfl, S12, ?_, by omega, fun d H13 hd x13 S13 => kk d H13 hd x13 S13⟩
    cases X with
    | nil => cases hc
    | cons _ _ => exact Nat.succ_pos _
  have x513 := x12.trans x13
  have hX1 : ∀ i ≤ 7, X.length + i ≤ sizeLine := fun i hi => Nat.le_trans (by omega : _ ≤ 100) (by decide)
  refine ⟨_, rfl, r0, X, rfl, .inr (fX _ x513), fun l1 hl1 => ?_⟩
  have s14 := same_new hl1 (.lst X)
  have h14 : upd H13 l1 (.lst X) l1 = some (.lst X) := upd_same
  have nl1 := (S13.ne hl1).1
  have S14 := S13.same s14
  generalize upd H13 l1 (.lst X) = H14 at s14 h14 S14 ⊢
  have x514 := x513.trans (SameX.of s14)
  refine ⟨_, rfl, by show 1 ≤ sizeLine; decide, fun t0 ht0 => ?_⟩
  have s15 := same_new ht0 (.tup [.int 0])
  have h15 : upd H14 t0 (.tup [.int 0]) t0 = some (.tup [.int 0]) := upd_same
  have S15 := S14.same s15
  generalize upd H14 t0 (.tup [.int 0]) = H15 at s15 h15 S15 ⊢
  have x515 := x514.trans (SameX.of s15)
  refine ⟨r0, t0, X, _, rfl, rfl, fX _ x515, h15, hX1 1 (by decide), fun p3 H16 s16 h16 => ?_⟩
  have x516 := x515.trans (SameX.of s16)
  refine ⟨_, rfl, _, ⟨X, .inr (fX _ x516), rfl⟩, ?_⟩
  refine tup_of (n := e.lets.length) (fun p4 zs H17 s17 h17 hzs => ?_) (fun hc kk => ?_) (fun hc kk => ?_)
  · have x517 := x516.trans (SameX.of s17)
    have S17 := S15.same (s16.trans s17)
    refine ⟨by show 6 ≤ sizeLine; decide, fun L hL => ?_⟩
    have s18 := same_new hL (.lst [.non, .ref l1, .ref p3, .ref p4, .str "", .int 7])
    have h18 : upd H17 L (.lst [.non, .ref l1, .ref p3, .ref p4, .str "", .int 7]) L = some (.lst [.non, .ref l1, .ref p3, .ref p4, .str "", .int 7]) := upd_same
    have nL := (S17.ne hL).1
    have S18 := S17.same s18
    generalize upd H17 L (.lst [.non, .ref l1, .ref p3, .ref p4, .str "", .int 7]) = H18 at s18 h18 S18 ⊢
    have x518 := x517.trans (SameX.of s18)
    have tupne : ∀ (p : Addr) (zs : List V), H18 p = some (.tup zs) → V.ref p ≠ .ref s := fun p zs h z => by
      obtain ⟨os, hos⟩ := S18.at
      rw [V.ref.inj z, hos] at h
      cases h
    have h3 := s18 _ _ (s17 _ _ h16)
    have h4 := s18 _ _ h17
    have hl1' := s18 _ _ (s17 _ _ (s16 _ _ (s15 _ _ h14)))
    have base : ∀ u ∈ [V.non, .ref l1, .ref p3, .ref p4, .str "", .int 7], SepV e H18 u false ∧ u ≠ .ref s := fun u hu => by
      simp only [List.mem_cons, List.not_mem_nil, or_false] at hu
      rcases hu with rfl | rfl | rfl | rfl | rfl | rfl
      · exact ⟨.kind .non k_nu, fun z => (nomatch z)⟩
      · exact ⟨.kind (.lst hl1') k_lu, fun z => nl1 (V.ref.inj z)⟩
      · exact ⟨.len h3 (by rw [List.length_append, hX]; simp), tupne _ _ h3⟩
      · exact ⟨.len h4 hzs, tupne _ _ h4⟩
      · exact ⟨.kind (.str _) k_su, fun z => (nomatch z)⟩
      · exact ⟨.kind (.int 7) k_iu, fun z => (nomatch z)⟩
    refine ⟨_, rfl, _, ⟨X, .inr (fX _ x518), rfl⟩, ?_⟩
    refine ext_of (fun H' => ∃ ws : List V, SameX s H5 H' ∧ StreamAt s l H' ∧ H' L = some (.lst ws) ∧ 0 < ws.length ∧ ws.length ≤ 12 ∧ ∀ u ∈ ws, SepV e H' u false ∧ u ≠ .ref s) (fun H19 hG => ?_) (fun hc kk => ?_) (fun hc => ⟨_, x518, S18, h18, by show 0 < 6; decide, by show 6 ≤ 12; decide, base⟩)
    · obtain ⟨ws, x19, S19, h19, hw0, hw12, hws⟩ := hG
      refine ⟨_, rfl, _, rfl, _, rfl, s, l, L, ws, rfl, S19, h19, nL, hw0, by omega, fun u H20 hu x20 S20 => ?_⟩
      obtain ⟨w1, w2⟩ := hws u hu
      exact ⟨e, v, u, false, rfl, fV _ (x35.trans (x19.trans x20)), hx, w1.sx S19 x20 w2, fun H21 s21 => ⟨_, _, rfl, rfl, q H21⟩⟩
    · -- the odd ones
      have hX0 : 0 < X.length := by
        cases X with
        | nil => cases hc
        | cons _ _ => exact Nat.succ_pos _
      have hatl : at_ < X.length := hat (by cases X with | nil => cases hc | cons _ _ => rfl)
      have hgx : X[at_]? = some X[at_] := List.getElem?_eq_getElem hatl
      obtain ⟨z, hz⟩ := hXint _ _ hgx
      rw [hz] at hgx
      refine ⟨_, rfl, .inl ⟨rfl, _, SqL.of h18⟩, ?_⟩
      refine ⟨_, rfl, _, rfl, _, rfl, r0, X, at_, _, rfl, rfl, fX _ x518, hgx, _, _, rfl, rfl, by show 6 ≤ sizeLine; decide, fun LO hLO => ?_⟩
      have s19 := same_new hLO (.lst [.int 8, .int (-1), .non, .bl true, .str "0", .int ((z : Int) + 8)])
      have h19 : upd H18 LO (.lst [.int 8, .int (-1), .non, .bl true, .str "0", .int ((z : Int) + 8)]) LO = some (.lst [.int 8, .int (-1), .non, .bl true, .str "0", .int ((z : Int) + 8)]) := upd_same
      have S19 := S18.same s19
      generalize upd H18 LO (.lst [.int 8, .int (-1), .non, .bl true, .str "0", .int ((z : Int) + 8)]) = H19 at s19 h19 S19 ⊢
      have hodd : ∀ u ∈ [V.int 8, .int (-1), .non, .bl true, .str "0", .int ((z : Int) + 8)], flatV u = true ∧ isNum u = false := fun u hu => by
        simp only [List.mem_cons, List.not_mem_nil, or_false] at hu
        rcases hu with rfl | rfl | rfl | rfl | rfl | rfl
        · exact ⟨rfl, rfl⟩
        · exact ⟨rfl, rfl⟩
        · exact ⟨rfl, rfl⟩
        · exact ⟨rfl, rfl⟩
        · exact ⟨rfl, rfl⟩
        · refine ⟨rfl, ?_⟩
          show (decide (0 ≤ (z : Int) + 8) && decide ((z : Int) + 8 ≤ 7)) = false
          rw [decide_eq_false (by omega : ¬ (z : Int) + 8 ≤ 7), Bool.and_false]
      have hol : [V.int 8, .int (-1), .non, .bl true, .str "0", .int ((z : Int) + 8)].length = 6 := rfl
      generalize [V.int 8, .int (-1), .non, .bl true, .str "0", .int ((z : Int) + 8)] = odds at h19 hodd hol
      refine ⟨LO, odds, rfl, h19, fun K2 D4 hD4 => ?_⟩
      refine lc_rel (R := fun (y : V) u => u = y) (l := odds) hD4 (wk_lst fun H20 s20 => s20 _ _ h19) (by have h := pr_map (R := fun (y : V) u => u = y) (f := fun y => y) (fun _ => rfl) odds; rw [List.map_id'] at h; exact h) (by omega) (fun _ => true)
        (fun y u H20 => ∃ p : Addr, u = .ref p ∧ H20 p = some (.tup (X.take at_ ++ [y] ++ X.drop (at_ + 1)))) (fun _ _ _ _ s ⟨p, e1, e2⟩ => ⟨p, e1, s _ _ e2⟩) (fun _ _ _ _ _ h ⟨p, e1, e2⟩ => ⟨p, e1, TS.upd h _ _ e2⟩) (fun y u H20 hy hRy s20 hDl Ky Kn k1 _ => ?_) (fun H20 ys s20 hys hpy => ?_)
      · subst hRy
        have x20 := x518.trans (SameX.of (s19.trans s20))
        refine ⟨rfl, yesT (iteT ⟨_, rfl, _, rfl, _, rfl, r0, X, rfl, fX _ x20, fun p5 H21 s21 h21 => ⟨_, rfl, by show 1 ≤ sizeLine; decide, fun t5 ht5 => ?_⟩⟩)⟩
        have s22 := same_new ht5 (.tup [u])
        have h22 : upd H21 t5 (.tup [u]) t5 = some (.tup [u]) := upd_same
        generalize upd H21 t5 (.tup [u]) = H22 at s22 h22 ⊢
        rw [cut_hi X at_ (by omega)] at h21
        have x22 := x20.trans (SameX.of (s21.trans s22))
        refine ⟨p5, t5, _, _, rfl, rfl, s22 _ _ h21, h22, by rw [List.length_take]; exact Nat.le_trans (by show _ ≤ 100; have : ([u] : List V).length = 1 := rfl; omega) (by decide), fun p6 H23 s23 h23 => ?_⟩
        have x23 := x22.trans (SameX.of s23)
        refine ⟨_, rfl, _, rfl, _, _, rfl, rfl, _, rfl, r0, X, rfl, fX _ x23, fun p7 H24 s24 h24 => ?_⟩
        rw [show ((at_ : Int) + 1) = ((at_ + 1 : Nat) : Int) from rfl, cut_lo X (at_ + 1) (by omega)] at h24
        refine ⟨p6, p7, _, _, rfl, rfl, s24 _ _ h23, h24, by rw [List.length_append, List.length_take, List.length_drop]; exact Nat.le_trans (by show _ ≤ 100; have : ([u] : List V).length = 1 := rfl; omega) (by decide), fun p8 H25 s25 h25 => ?_⟩
        exact k1 _ _ rfl (s21.trans (s22.trans (s23.trans (s24.trans s25)))) ⟨p8, rfl, h25⟩
      · rw [filter_yes] at hpy
        have hyl := hpy.length
        have h20 := s20 _ _ (s19 _ _ h18)
        refine ⟨L, D4, _, ys, rfl, rfl, h20, hys, Nat.le_trans (by show 6 + ys.length ≤ 100; omega) (by decide), ?_⟩
        have hLn : H5 L = none := x517.free S17 hL
        have nLl := (S17.ne hL).2
        have sLu : TS H20 (upd H20 L (.lst ([V.non, .ref l1, .ref p3, .ref p4, .str "", .int 7] ++ ys))) := TS.upd h20
        have S20 := S19.same s20
        have nl1L : l1 ≠ L := ne_of_none (s17 _ _ (s16 _ _ (s15 _ _ h14))) hL
        refine kk _ ⟨[V.non, .ref l1, .ref p3, .ref p4, .str "", .int 7] ++ ys, (x518.trans (SameX.of (s19.trans s20))).mut hLn, S20.mut nL nLl, upd_same, by rw [List.length_append]; show 0 < 6 + _; omega, by rw [List.length_append]; show 6 + _ ≤ 12; omega, fun u hu => ?_⟩
        rcases List.mem_append.mp hu with h1 | h1
        · obtain ⟨b1, b2⟩ := base u h1
          refine ⟨?_, b2⟩
          have b3 := b1.same (s19.trans s20)
          cases b3 with
          | kind k1 k2 =>
            refine .kind ?_ k2
            cases k1 with
            | non => exact .non
            | bl b => exact .bl b
            | int i => exact .int i
            | str z => exact .str z
            | tup h => exact .tup (sLu _ _ h)
            | @lst a5 xs5 h =>
              simp only [List.mem_cons, List.not_mem_nil, or_false] at h1
              have ha5 : a5 ≠ L := by
                rintro rfl
                rcases h1 with h1 | h1 | h1 | h1 | h1 | h1
                · cases h1
                · exact nl1L (V.ref.inj h1).symm
                · rw [V.ref.inj h1, s20 _ _ (s19 _ _ h3)] at h; cases h
                · rw [V.ref.inj h1, s20 _ _ (s19 _ _ h4)] at h; cases h
                · cases h1
                · cases h1
              exact .lst (by rw [upd_ne ha5]; exact h)
          | len g1 g2 => exact .len (sLu _ _ g1) g2
          | bad g1 g2 g3 g4 => exact .bad (sLu _ _ g1) g2 g3 g4
          | good g1 g2 g3 g4 => exact .good (sLu _ _ g1) g2 g3 g4
        · obtain ⟨y, hy, p9, rfl, h9'⟩ := pr_mem hpy h1
          obtain ⟨o1, o2⟩ := hodd y hy
          have hh := sLu _ _ h9'
          refine ⟨.bad hh ?_ (fun y' hy' => ?_) ⟨y, by simp, o2⟩, fun zz => ?_⟩
          · rw [List.length_append, List.length_append, List.length_take, List.length_drop, ← hX]
            show min at_ X.length + 1 + _ = _
            omega
          · rcases List.mem_append.mp hy' with h2 | h2
            · rcases List.mem_append.mp h2 with h2 | h2
              · exact hXflat _ (List.mem_of_mem_take h2)
              · rw [List.mem_singleton.mp h2]; exact o1
            · exact hXflat _ (List.mem_of_mem_drop h2)
          · obtain ⟨os, hos⟩ := S20.at
            rw [V.ref.inj zz, hos] at h9'
            cases h9'
  · -- some[1:]
    have hX0 : 0 < X.length := by
      cases X with
      | nil => cases hc
      | cons _ _ => exact Nat.succ_pos _
    refine ⟨_, rfl, _, rfl, r0, X, rfl, fX _ x516, fun p H17 s17 h17 => kk p _ H17 s17 h17 ?_⟩
    rw [show (1 : Int) = ((1 : Nat) : Int) from rfl, cut_lo X 1 hX0, List.length_drop]
    omega
  · have hX0 : X.length = 0 := by
      cases X with
      | nil => rfl
      | cons _ _ => cases hc
    exact ⟨by show 1 ≤ sizeLine; decide, fun p hp => kk p _ _ (same_new hp _) upd_same (by show 1 ≠ _; omega)⟩
end
end K65
end

section
set_option Elab.async false
set_option linter.all false
set_option maxRecDepth 100000
/-! Where the defs stand, the levels of the calls, and the end; printed by mkend.py. -/
namespace K65
open PySem L2 PyProof.Rows
structure Fdef (K : PySem.W.Frag) (mg : Str → Option Value) (x : Str) (st : Stmt) (ps : List Str) : Prop where
  ex : ∃ (f : Addr) (fd : FuncData), Fun K x x st f fd ∧ mg x = some (.ref f) ∧ PySem.W.keepIn K (.ref f) = true ∧ Binds K fd ps []
section
variable {P : Program} {w : World} {K : PySem.W.Frag} {mg : Str → Option Value} {base : Heap} {k : Nat} {x : Str} {st : Stmt} {ps : List Str} {sp : Sp} {f : Addr} {fd : FuncData}
theorem Fdef.cd (D : Fdef K mg x st ps) (h : ∀ (f : Addr) (fd : FuncData), Fun K x x st f fd → FnOk P w K mg base CX0 k f fd ps sp) : Cd P w K mg base k x ps sp := by
  obtain ⟨f, fd, F, m, kp, b⟩ := D.ex
  exact ⟨f, fd, h f fd F, m, kp, b⟩
theorem no_ok (no : ∀ vs H Q E, ¬ sp vs H Q E) : FnOk P w K mg base CX0 k f fd ps sp := ⟨fun vs H Q E h => absurd h (no vs H Q E), fun A outer s H args us vs Q E _ _ _ _ h => absurd h (no vs H Q E)⟩
end
section
variable {K : PySem.W.Frag} {h : Heap} {mg : Str → Option Value}
theorem fd_is_leaf {f : Addr} {od an : Option Addr} {sl : Array (Option Value)} {oc kV dc pm cd ct : Value} (X : K.In h) (G : h.Ns mainGlobals mg) (a : PySem.W.nsIn K mainGlobals "is_leaf" = some (some (.ref f)))
    (l : K.lookup f = some ⟨oc, od, .func (PySem.W.fnOf "is_leaf" "is_leaf" (defArgs s_is_leaf) (defBody s_is_leaf) (defScope s_is_leaf) .none kV dc pm an cd ct), sl⟩) (c : PySem.W.codeIn K cd "is_leaf" = true) (k : PySem.W.keepIn K (.ref f) = true) : Fdef K mg "is_leaf" s_is_leaf ["value"] :=
  ⟨f, _, fun_mk (st := s_is_leaf) l c k, PySem.W.mg_of X G a, k, (fun_mk (st := s_is_leaf) l c k).binds (ps := ["value"]) fun _ _ _ _ _ _ us hl => match us, hl with | [_], _ => rfl⟩
theorem fd_parts_of {f : Addr} {od an : Option Addr} {sl : Array (Option Value)} {oc kV dc pm cd ct : Value} (X : K.In h) (G : h.Ns mainGlobals mg) (a : PySem.W.nsIn K mainGlobals "parts_of" = some (some (.ref f)))
    (l : K.lookup f = some ⟨oc, od, .func (PySem.W.fnOf "parts_of" "parts_of" (defArgs s_parts_of) (defBody s_parts_of) (defScope s_parts_of) .none kV dc pm an cd ct), sl⟩) (c : PySem.W.codeIn K cd "parts_of" = true) (k : PySem.W.keepIn K (.ref f) = true) : Fdef K mg "parts_of" s_parts_of ["expression"] :=
  ⟨f, _, fun_mk (st := s_parts_of) l c k, PySem.W.mg_of X G a, k, (fun_mk (st := s_parts_of) l c k).binds (ps := ["expression"]) fun _ _ _ _ _ _ us hl => match us, hl with | [_], _ => rfl⟩
theorem fd_letters_of {f : Addr} {od an : Option Addr} {sl : Array (Option Value)} {oc kV dc pm cd ct : Value} (X : K.In h) (G : h.Ns mainGlobals mg) (a : PySem.W.nsIn K mainGlobals "letters_of" = some (some (.ref f)))
    (l : K.lookup f = some ⟨oc, od, .func (PySem.W.fnOf "letters_of" "letters_of" (defArgs s_letters_of) (defBody s_letters_of) (defScope s_letters_of) .none kV dc pm an cd ct), sl⟩) (c : PySem.W.codeIn K cd "letters_of" = true) (k : PySem.W.keepIn K (.ref f) = true) : Fdef K mg "letters_of" s_letters_of ["expression"] :=
  ⟨f, _, fun_mk (st := s_letters_of) l c k, PySem.W.mg_of X G a, k, (fun_mk (st := s_letters_of) l c k).binds (ps := ["expression"]) fun _ _ _ _ _ _ us hl => match us, hl with | [_], _ => rfl⟩
theorem fd_count_of {f : Addr} {od an : Option Addr} {sl : Array (Option Value)} {oc kV dc pm cd ct : Value} (X : K.In h) (G : h.Ns mainGlobals mg) (a : PySem.W.nsIn K mainGlobals "count_of" = some (some (.ref f)))
    (l : K.lookup f = some ⟨oc, od, .func (PySem.W.fnOf "count_of" "count_of" (defArgs s_count_of) (defBody s_count_of) (defScope s_count_of) .none kV dc pm an cd ct), sl⟩) (c : PySem.W.codeIn K cd "count_of" = true) (k : PySem.W.keepIn K (.ref f) = true) : Fdef K mg "count_of" s_count_of ["expression"] :=
  ⟨f, _, fun_mk (st := s_count_of) l c k, PySem.W.mg_of X G a, k, (fun_mk (st := s_count_of) l c k).binds (ps := ["expression"]) fun _ _ _ _ _ _ us hl => match us, hl with | [_], _ => rfl⟩
theorem fd_has_empty {f : Addr} {od an : Option Addr} {sl : Array (Option Value)} {oc kV dc pm cd ct : Value} (X : K.In h) (G : h.Ns mainGlobals mg) (a : PySem.W.nsIn K mainGlobals "has_empty" = some (some (.ref f)))
    (l : K.lookup f = some ⟨oc, od, .func (PySem.W.fnOf "has_empty" "has_empty" (defArgs s_has_empty) (defBody s_has_empty) (defScope s_has_empty) .none kV dc pm an cd ct), sl⟩) (c : PySem.W.codeIn K cd "has_empty" = true) (k : PySem.W.keepIn K (.ref f) = true) : Fdef K mg "has_empty" s_has_empty ["expression"] :=
  ⟨f, _, fun_mk (st := s_has_empty) l c k, PySem.W.mg_of X G a, k, (fun_mk (st := s_has_empty) l c k).binds (ps := ["expression"]) fun _ _ _ _ _ _ us hl => match us, hl with | [_], _ => rfl⟩
theorem fd_has_form {f : Addr} {od an : Option Addr} {sl : Array (Option Value)} {oc kV dc pm cd ct : Value} (X : K.In h) (G : h.Ns mainGlobals mg) (a : PySem.W.nsIn K mainGlobals "has_form" = some (some (.ref f)))
    (l : K.lookup f = some ⟨oc, od, .func (PySem.W.fnOf "has_form" "has_form" (defArgs s_has_form) (defBody s_has_form) (defScope s_has_form) .none kV dc pm an cd ct), sl⟩) (c : PySem.W.codeIn K cd "has_form" = true) (k : PySem.W.keepIn K (.ref f) = true) : Fdef K mg "has_form" s_has_form ["value", "outer", "deep"] :=
  ⟨f, _, fun_mk (st := s_has_form) l c k, PySem.W.mg_of X G a, k, (fun_mk (st := s_has_form) l c k).binds (ps := ["value", "outer", "deep"]) fun _ _ _ _ _ _ us hl => match us, hl with | [_, _, _], _ => rfl⟩
theorem fd_is_expression {f : Addr} {od an : Option Addr} {sl : Array (Option Value)} {oc kV dc pm cd ct : Value} (X : K.In h) (G : h.Ns mainGlobals mg) (a : PySem.W.nsIn K mainGlobals "is_expression" = some (some (.ref f)))
    (l : K.lookup f = some ⟨oc, od, .func (PySem.W.fnOf "is_expression" "is_expression" (defArgs s_is_expression) (defBody s_is_expression) (defScope s_is_expression) .none kV dc pm an cd ct), sl⟩) (c : PySem.W.codeIn K cd "is_expression" = true) (k : PySem.W.keepIn K (.ref f) = true) : Fdef K mg "is_expression" s_is_expression ["value"] :=
  ⟨f, _, fun_mk (st := s_is_expression) l c k, PySem.W.mg_of X G a, k, (fun_mk (st := s_is_expression) l c k).binds (ps := ["value"]) fun _ _ _ _ _ _ us hl => match us, hl with | [_], _ => rfl⟩
theorem fd_check_expression {f : Addr} {od an : Option Addr} {sl : Array (Option Value)} {oc kV dc pm cd ct : Value} (X : K.In h) (G : h.Ns mainGlobals mg) (a : PySem.W.nsIn K mainGlobals "check_expression" = some (some (.ref f)))
    (l : K.lookup f = some ⟨oc, od, .func (PySem.W.fnOf "check_expression" "check_expression" (defArgs s_check_expression) (defBody s_check_expression) (defScope s_check_expression) .none kV dc pm an cd ct), sl⟩) (c : PySem.W.codeIn K cd "check_expression" = true) (k : PySem.W.keepIn K (.ref f) = true) : Fdef K mg "check_expression" s_check_expression ["value"] :=
  ⟨f, _, fun_mk (st := s_check_expression) l c k, PySem.W.mg_of X G a, k, (fun_mk (st := s_check_expression) l c k).binds (ps := ["value"]) fun _ _ _ _ _ _ us hl => match us, hl with | [_], _ => rfl⟩
theorem fd_gathered {f : Addr} {od an : Option Addr} {sl : Array (Option Value)} {oc kV dc pm cd ct : Value} (X : K.In h) (G : h.Ns mainGlobals mg) (a : PySem.W.nsIn K mainGlobals "gathered" = some (some (.ref f)))
    (l : K.lookup f = some ⟨oc, od, .func (PySem.W.fnOf "gathered" "gathered" (defArgs s_gathered) (defBody s_gathered) (defScope s_gathered) .none kV dc pm an cd ct), sl⟩) (c : PySem.W.codeIn K cd "gathered" = true) (k : PySem.W.keepIn K (.ref f) = true) : Fdef K mg "gathered" s_gathered ["expression", "start"] :=
  ⟨f, _, fun_mk (st := s_gathered) l c k, PySem.W.mg_of X G a, k, (fun_mk (st := s_gathered) l c k).binds (ps := ["expression", "start"]) fun _ _ _ _ _ _ us hl => match us, hl with | [_, _], _ => rfl⟩
theorem fd_ordered {f : Addr} {od an : Option Addr} {sl : Array (Option Value)} {oc kV dc pm cd ct : Value} (X : K.In h) (G : h.Ns mainGlobals mg) (a : PySem.W.nsIn K mainGlobals "ordered" = some (some (.ref f)))
    (l : K.lookup f = some ⟨oc, od, .func (PySem.W.fnOf "ordered" "ordered" (defArgs s_ordered) (defBody s_ordered) (defScope s_ordered) .none kV dc pm an cd ct), sl⟩) (c : PySem.W.codeIn K cd "ordered" = true) (k : PySem.W.keepIn K (.ref f) = true) : Fdef K mg "ordered" s_ordered ["places"] :=
  ⟨f, _, fun_mk (st := s_ordered) l c k, PySem.W.mg_of X G a, k, (fun_mk (st := s_ordered) l c k).binds (ps := ["places"]) fun _ _ _ _ _ _ us hl => match us, hl with | [_], _ => rfl⟩
theorem fd_pairs_in {f : Addr} {od an : Option Addr} {sl : Array (Option Value)} {oc kV dc pm cd ct : Value} (X : K.In h) (G : h.Ns mainGlobals mg) (a : PySem.W.nsIn K mainGlobals "pairs_in" = some (some (.ref f)))
    (l : K.lookup f = some ⟨oc, od, .func (PySem.W.fnOf "pairs_in" "pairs_in" (defArgs s_pairs_in) (defBody s_pairs_in) (defScope s_pairs_in) .none kV dc pm an cd ct), sl⟩) (c : PySem.W.codeIn K cd "pairs_in" = true) (k : PySem.W.keepIn K (.ref f) = true) : Fdef K mg "pairs_in" s_pairs_in ["letters", "places"] :=
  ⟨f, _, fun_mk (st := s_pairs_in) l c k, PySem.W.mg_of X G a, k, (fun_mk (st := s_pairs_in) l c k).binds (ps := ["letters", "places"]) fun _ _ _ _ _ _ us hl => match us, hl with | [_, _], _ => rfl⟩
theorem fd_tables_of {f : Addr} {od an : Option Addr} {sl : Array (Option Value)} {oc kV dc pm cd ct : Value} (X : K.In h) (G : h.Ns mainGlobals mg) (a : PySem.W.nsIn K mainGlobals "tables_of" = some (some (.ref f)))
    (l : K.lookup f = some ⟨oc, od, .func (PySem.W.fnOf "tables_of" "tables_of" (defArgs s_tables_of) (defBody s_tables_of) (defScope s_tables_of) .none kV dc pm an cd ct), sl⟩) (c : PySem.W.codeIn K cd "tables_of" = true) (k : PySem.W.keepIn K (.ref f) = true) : Fdef K mg "tables_of" s_tables_of ["expression"] :=
  ⟨f, _, fun_mk (st := s_tables_of) l c k, PySem.W.mg_of X G a, k, (fun_mk (st := s_tables_of) l c k).binds (ps := ["expression"]) fun _ _ _ _ _ _ us hl => match us, hl with | [_], _ => rfl⟩
theorem fd_conflicts_in {f : Addr} {od an : Option Addr} {sl : Array (Option Value)} {oc kV dc pm cd ct : Value} (X : K.In h) (G : h.Ns mainGlobals mg) (a : PySem.W.nsIn K mainGlobals "conflicts_in" = some (some (.ref f)))
    (l : K.lookup f = some ⟨oc, od, .func (PySem.W.fnOf "conflicts_in" "conflicts_in" (defArgs s_conflicts_in) (defBody s_conflicts_in) (defScope s_conflicts_in) .none kV dc pm an cd ct), sl⟩) (c : PySem.W.codeIn K cd "conflicts_in" = true) (k : PySem.W.keepIn K (.ref f) = true) : Fdef K mg "conflicts_in" s_conflicts_in ["tables"] :=
  ⟨f, _, fun_mk (st := s_conflicts_in) l c k, PySem.W.mg_of X G a, k, (fun_mk (st := s_conflicts_in) l c k).binds (ps := ["tables"]) fun _ _ _ _ _ _ us hl => match us, hl with | [_], _ => rfl⟩
theorem fd_conflicts_of {f : Addr} {od an : Option Addr} {sl : Array (Option Value)} {oc kV dc pm cd ct : Value} (X : K.In h) (G : h.Ns mainGlobals mg) (a : PySem.W.nsIn K mainGlobals "conflicts_of" = some (some (.ref f)))
    (l : K.lookup f = some ⟨oc, od, .func (PySem.W.fnOf "conflicts_of" "conflicts_of" (defArgs s_conflicts_of) (defBody s_conflicts_of) (defScope s_conflicts_of) .none kV dc pm an cd ct), sl⟩) (c : PySem.W.codeIn K cd "conflicts_of" = true) (k : PySem.W.keepIn K (.ref f) = true) : Fdef K mg "conflicts_of" s_conflicts_of ["expression"] :=
  ⟨f, _, fun_mk (st := s_conflicts_of) l c k, PySem.W.mg_of X G a, k, (fun_mk (st := s_conflicts_of) l c k).binds (ps := ["expression"]) fun _ _ _ _ _ _ us hl => match us, hl with | [_], _ => rfl⟩
theorem fd_is_number {f : Addr} {od an : Option Addr} {sl : Array (Option Value)} {oc kV dc pm cd ct : Value} (X : K.In h) (G : h.Ns mainGlobals mg) (a : PySem.W.nsIn K mainGlobals "is_number" = some (some (.ref f)))
    (l : K.lookup f = some ⟨oc, od, .func (PySem.W.fnOf "is_number" "is_number" (defArgs s_is_number) (defBody s_is_number) (defScope s_is_number) .none kV dc pm an cd ct), sl⟩) (c : PySem.W.codeIn K cd "is_number" = true) (k : PySem.W.keepIn K (.ref f) = true) : Fdef K mg "is_number" s_is_number ["value", "low", "high"] :=
  ⟨f, _, fun_mk (st := s_is_number) l c k, PySem.W.mg_of X G a, k, (fun_mk (st := s_is_number) l c k).binds (ps := ["value", "low", "high"]) fun _ _ _ _ _ _ us hl => match us, hl with | [_, _, _], _ => rfl⟩
theorem fd_neighbours_of {f : Addr} {od an : Option Addr} {sl : Array (Option Value)} {oc kV dc pm cd ct : Value} (X : K.In h) (G : h.Ns mainGlobals mg) (a : PySem.W.nsIn K mainGlobals "neighbours_of" = some (some (.ref f)))
    (l : K.lookup f = some ⟨oc, od, .func (PySem.W.fnOf "neighbours_of" "neighbours_of" (defArgs s_neighbours_of) (defBody s_neighbours_of) (defScope s_neighbours_of) .none kV dc pm an cd ct), sl⟩) (c : PySem.W.codeIn K cd "neighbours_of" = true) (k : PySem.W.keepIn K (.ref f) = true) : Fdef K mg "neighbours_of" s_neighbours_of ["expression"] :=
  ⟨f, _, fun_mk (st := s_neighbours_of) l c k, PySem.W.mg_of X G a, k, (fun_mk (st := s_neighbours_of) l c k).binds (ps := ["expression"]) fun _ _ _ _ _ _ us hl => match us, hl with | [_], _ => rfl⟩
theorem fd_do_separate {f : Addr} {od an : Option Addr} {sl : Array (Option Value)} {oc kV dc pm cd ct : Value} (X : K.In h) (G : h.Ns mainGlobals mg) (a : PySem.W.nsIn K mainGlobals "do_separate" = some (some (.ref f)))
    (l : K.lookup f = some ⟨oc, od, .func (PySem.W.fnOf "do_separate" "do_separate" (defArgs s_do_separate) (defBody s_do_separate) (defScope s_do_separate) .none kV dc pm an cd ct), sl⟩) (c : PySem.W.codeIn K cd "do_separate" = true) (k : PySem.W.keepIn K (.ref f) = true) : Fdef K mg "do_separate" s_do_separate ["expression", "value"] :=
  ⟨f, _, fun_mk (st := s_do_separate) l c k, PySem.W.mg_of X G a, k, (fun_mk (st := s_do_separate) l c k).binds (ps := ["expression", "value"]) fun _ _ _ _ _ _ us hl => match us, hl with | [_, _], _ => rfl⟩
theorem fd_separates {f : Addr} {od an : Option Addr} {sl : Array (Option Value)} {oc kV dc pm cd ct : Value} (X : K.In h) (G : h.Ns mainGlobals mg) (a : PySem.W.nsIn K mainGlobals "separates" = some (some (.ref f)))
    (l : K.lookup f = some ⟨oc, od, .func (PySem.W.fnOf "separates" "separates" (defArgs s_separates) (defBody s_separates) (defScope s_separates) .none kV dc pm an cd ct), sl⟩) (c : PySem.W.codeIn K cd "separates" = true) (k : PySem.W.keepIn K (.ref f) = true) : Fdef K mg "separates" s_separates ["expression", "value"] :=
  ⟨f, _, fun_mk (st := s_separates) l c k, PySem.W.mg_of X G a, k, (fun_mk (st := s_separates) l c k).binds (ps := ["expression", "value"]) fun _ _ _ _ _ _ us hl => match us, hl with | [_, _], _ => rfl⟩
theorem fd_first_coloring {f : Addr} {od an : Option Addr} {sl : Array (Option Value)} {oc kV dc pm cd ct : Value} (X : K.In h) (G : h.Ns mainGlobals mg) (a : PySem.W.nsIn K mainGlobals "first_coloring" = some (some (.ref f)))
    (l : K.lookup f = some ⟨oc, od, .func (PySem.W.fnOf "first_coloring" "first_coloring" (defArgs s_first_coloring) (defBody s_first_coloring) (defScope s_first_coloring) .none kV dc pm an cd ct), sl⟩) (c : PySem.W.codeIn K cd "first_coloring" = true) (k : PySem.W.keepIn K (.ref f) = true) : Fdef K mg "first_coloring" s_first_coloring ["near", "many"] :=
  ⟨f, _, fun_mk (st := s_first_coloring) l c k, PySem.W.mg_of X G a, k, (fun_mk (st := s_first_coloring) l c k).binds (ps := ["near", "many"]) fun _ _ _ _ _ _ us hl => match us, hl with | [_, _], _ => rfl⟩
theorem fd_crowd_in {f : Addr} {od an : Option Addr} {sl : Array (Option Value)} {oc kV dc pm cd ct : Value} (X : K.In h) (G : h.Ns mainGlobals mg) (a : PySem.W.nsIn K mainGlobals "crowd_in" = some (some (.ref f)))
    (l : K.lookup f = some ⟨oc, od, .func (PySem.W.fnOf "crowd_in" "crowd_in" (defArgs s_crowd_in) (defBody s_crowd_in) (defScope s_crowd_in) .none kV dc pm an cd ct), sl⟩) (c : PySem.W.codeIn K cd "crowd_in" = true) (k : PySem.W.keepIn K (.ref f) = true) : Fdef K mg "crowd_in" s_crowd_in ["near"] :=
  ⟨f, _, fun_mk (st := s_crowd_in) l c k, PySem.W.mg_of X G a, k, (fun_mk (st := s_crowd_in) l c k).binds (ps := ["near"]) fun _ _ _ _ _ _ us hl => match us, hl with | [_], _ => rfl⟩
theorem fd_told_with {f : Addr} {od an : Option Addr} {sl : Array (Option Value)} {oc kV dc pm cd ct : Value} (X : K.In h) (G : h.Ns mainGlobals mg) (a : PySem.W.nsIn K mainGlobals "told_with" = some (some (.ref f)))
    (l : K.lookup f = some ⟨oc, od, .func (PySem.W.fnOf "told_with" "told_with" (defArgs s_told_with) (defBody s_told_with) (defScope s_told_with) .none kV dc pm an cd ct), sl⟩) (c : PySem.W.codeIn K cd "told_with" = true) (k : PySem.W.keepIn K (.ref f) = true) : Fdef K mg "told_with" s_told_with ["near"] :=
  ⟨f, _, fun_mk (st := s_told_with) l c k, PySem.W.mg_of X G a, k, (fun_mk (st := s_told_with) l c k).binds (ps := ["near"]) fun _ _ _ _ _ _ us hl => match us, hl with | [_], _ => rfl⟩
theorem fd_color_number {f : Addr} {od an : Option Addr} {sl : Array (Option Value)} {oc kV dc pm cd ct : Value} (X : K.In h) (G : h.Ns mainGlobals mg) (a : PySem.W.nsIn K mainGlobals "color_number" = some (some (.ref f)))
    (l : K.lookup f = some ⟨oc, od, .func (PySem.W.fnOf "color_number" "color_number" (defArgs s_color_number) (defBody s_color_number) (defScope s_color_number) .none kV dc pm an cd ct), sl⟩) (c : PySem.W.codeIn K cd "color_number" = true) (k : PySem.W.keepIn K (.ref f) = true) : Fdef K mg "color_number" s_color_number ["expression"] :=
  ⟨f, _, fun_mk (st := s_color_number) l c k, PySem.W.mg_of X G a, k, (fun_mk (st := s_color_number) l c k).binds (ps := ["expression"]) fun _ _ _ _ _ _ us hl => match us, hl with | [_], _ => rfl⟩
theorem fd_told_coloring {f : Addr} {od an : Option Addr} {sl : Array (Option Value)} {oc kV dc pm cd ct : Value} (X : K.In h) (G : h.Ns mainGlobals mg) (a : PySem.W.nsIn K mainGlobals "told_coloring" = some (some (.ref f)))
    (l : K.lookup f = some ⟨oc, od, .func (PySem.W.fnOf "told_coloring" "told_coloring" (defArgs s_told_coloring) (defBody s_told_coloring) (defScope s_told_coloring) .none kV dc pm an cd ct), sl⟩) (c : PySem.W.codeIn K cd "told_coloring" = true) (k : PySem.W.keepIn K (.ref f) = true) : Fdef K mg "told_coloring" s_told_coloring ["expression"] :=
  ⟨f, _, fun_mk (st := s_told_coloring) l c k, PySem.W.mg_of X G a, k, (fun_mk (st := s_told_coloring) l c k).binds (ps := ["expression"]) fun _ _ _ _ _ _ us hl => match us, hl with | [_], _ => rfl⟩
theorem fd__law_inside {f : Addr} {od an : Option Addr} {sl : Array (Option Value)} {oc kV dc pm cd ct : Value} (X : K.In h) (G : h.Ns mainGlobals mg) (a : PySem.W.nsIn K mainGlobals "_law_inside" = some (some (.ref f)))
    (l : K.lookup f = some ⟨oc, od, .func (PySem.W.fnOf "_law_inside" "_law_inside" (defArgs s__law_inside) (defBody s__law_inside) (defScope s__law_inside) .none kV dc pm an cd ct), sl⟩) (c : PySem.W.codeIn K cd "_law_inside" = true) (k : PySem.W.keepIn K (.ref f) = true) : Fdef K mg "_law_inside" s__law_inside ["_law_expression"] :=
  ⟨f, _, fun_mk (st := s__law_inside) l c k, PySem.W.mg_of X G a, k, (fun_mk (st := s__law_inside) l c k).binds (ps := ["_law_expression"]) fun _ _ _ _ _ _ us hl => match us, hl with | [_], _ => rfl⟩
theorem fd__law_letters {f : Addr} {od an : Option Addr} {sl : Array (Option Value)} {oc kV dc pm cd ct : Value} (X : K.In h) (G : h.Ns mainGlobals mg) (a : PySem.W.nsIn K mainGlobals "_law_letters" = some (some (.ref f)))
    (l : K.lookup f = some ⟨oc, od, .func (PySem.W.fnOf "_law_letters" "_law_letters" (defArgs s__law_letters) (defBody s__law_letters) (defScope s__law_letters) .none kV dc pm an cd ct), sl⟩) (c : PySem.W.codeIn K cd "_law_letters" = true) (k : PySem.W.keepIn K (.ref f) = true) : Fdef K mg "_law_letters" s__law_letters ["_law_expression"] :=
  ⟨f, _, fun_mk (st := s__law_letters) l c k, PySem.W.mg_of X G a, k, (fun_mk (st := s__law_letters) l c k).binds (ps := ["_law_expression"]) fun _ _ _ _ _ _ us hl => match us, hl with | [_], _ => rfl⟩
theorem fd__law_count {f : Addr} {od an : Option Addr} {sl : Array (Option Value)} {oc kV dc pm cd ct : Value} (X : K.In h) (G : h.Ns mainGlobals mg) (a : PySem.W.nsIn K mainGlobals "_law_count" = some (some (.ref f)))
    (l : K.lookup f = some ⟨oc, od, .func (PySem.W.fnOf "_law_count" "_law_count" (defArgs s__law_count) (defBody s__law_count) (defScope s__law_count) .none kV dc pm an cd ct), sl⟩) (c : PySem.W.codeIn K cd "_law_count" = true) (k : PySem.W.keepIn K (.ref f) = true) : Fdef K mg "_law_count" s__law_count ["_law_expression"] :=
  ⟨f, _, fun_mk (st := s__law_count) l c k, PySem.W.mg_of X G a, k, (fun_mk (st := s__law_count) l c k).binds (ps := ["_law_expression"]) fun _ _ _ _ _ _ us hl => match us, hl with | [_], _ => rfl⟩
theorem fd__law_is_integer {f : Addr} {od an : Option Addr} {sl : Array (Option Value)} {oc kV dc pm cd ct : Value} (X : K.In h) (G : h.Ns mainGlobals mg) (a : PySem.W.nsIn K mainGlobals "_law_is_integer" = some (some (.ref f)))
    (l : K.lookup f = some ⟨oc, od, .func (PySem.W.fnOf "_law_is_integer" "_law_is_integer" (defArgs s__law_is_integer) (defBody s__law_is_integer) (defScope s__law_is_integer) .none kV dc pm an cd ct), sl⟩) (c : PySem.W.codeIn K cd "_law_is_integer" = true) (k : PySem.W.keepIn K (.ref f) = true) : Fdef K mg "_law_is_integer" s__law_is_integer ["_law_actual"] :=
  ⟨f, _, fun_mk (st := s__law_is_integer) l c k, PySem.W.mg_of X G a, k, (fun_mk (st := s__law_is_integer) l c k).binds (ps := ["_law_actual"]) fun _ _ _ _ _ _ us hl => match us, hl with | [_], _ => rfl⟩
theorem fd__law_equal {f : Addr} {od an : Option Addr} {sl : Array (Option Value)} {oc kV dc pm cd ct : Value} (X : K.In h) (G : h.Ns mainGlobals mg) (a : PySem.W.nsIn K mainGlobals "_law_equal" = some (some (.ref f)))
    (l : K.lookup f = some ⟨oc, od, .func (PySem.W.fnOf "_law_equal" "_law_equal" (defArgs s__law_equal) (defBody s__law_equal) (defScope s__law_equal) .none kV dc pm an cd ct), sl⟩) (c : PySem.W.codeIn K cd "_law_equal" = true) (k : PySem.W.keepIn K (.ref f) = true) : Fdef K mg "_law_equal" s__law_equal ["_law_actual", "_law_due"] :=
  ⟨f, _, fun_mk (st := s__law_equal) l c k, PySem.W.mg_of X G a, k, (fun_mk (st := s__law_equal) l c k).binds (ps := ["_law_actual", "_law_due"]) fun _ _ _ _ _ _ us hl => match us, hl with | [_, _], _ => rfl⟩
theorem fd__law_once {f : Addr} {od an : Option Addr} {sl : Array (Option Value)} {oc kV dc pm cd ct : Value} (X : K.In h) (G : h.Ns mainGlobals mg) (a : PySem.W.nsIn K mainGlobals "_law_once" = some (some (.ref f)))
    (l : K.lookup f = some ⟨oc, od, .func (PySem.W.fnOf "_law_once" "_law_once" (defArgs s__law_once) (defBody s__law_once) (defScope s__law_once) .none kV dc pm an cd ct), sl⟩) (c : PySem.W.codeIn K cd "_law_once" = true) (k : PySem.W.keepIn K (.ref f) = true) : Fdef K mg "_law_once" s__law_once ["_law_rows"] :=
  ⟨f, _, fun_mk (st := s__law_once) l c k, PySem.W.mg_of X G a, k, (fun_mk (st := s__law_once) l c k).binds (ps := ["_law_rows"]) fun _ _ _ _ _ _ us hl => match us, hl with | [_], _ => rfl⟩
theorem fd__law_looks {f : Addr} {od an : Option Addr} {sl : Array (Option Value)} {oc kV dc pm cd ct : Value} (X : K.In h) (G : h.Ns mainGlobals mg) (a : PySem.W.nsIn K mainGlobals "_law_looks" = some (some (.ref f)))
    (l : K.lookup f = some ⟨oc, od, .func (PySem.W.fnOf "_law_looks" "_law_looks" (defArgs s__law_looks) (defBody s__law_looks) (defScope s__law_looks) .none kV dc pm an cd ct), sl⟩) (c : PySem.W.codeIn K cd "_law_looks" = true) (k : PySem.W.keepIn K (.ref f) = true) : Fdef K mg "_law_looks" s__law_looks ["_law_expression", "_law_start"] :=
  ⟨f, _, fun_mk (st := s__law_looks) l c k, PySem.W.mg_of X G a, k, (fun_mk (st := s__law_looks) l c k).binds (ps := ["_law_expression", "_law_start"]) fun _ _ _ _ _ _ us hl => match us, hl with | [_, _], _ => rfl⟩
theorem fd__law_conflicts {f : Addr} {od an : Option Addr} {sl : Array (Option Value)} {oc kV dc pm cd ct : Value} (X : K.In h) (G : h.Ns mainGlobals mg) (a : PySem.W.nsIn K mainGlobals "_law_conflicts" = some (some (.ref f)))
    (l : K.lookup f = some ⟨oc, od, .func (PySem.W.fnOf "_law_conflicts" "_law_conflicts" (defArgs s__law_conflicts) (defBody s__law_conflicts) (defScope s__law_conflicts) .none kV dc pm an cd ct), sl⟩) (c : PySem.W.codeIn K cd "_law_conflicts" = true) (k : PySem.W.keepIn K (.ref f) = true) : Fdef K mg "_law_conflicts" s__law_conflicts ["_law_expression"] :=
  ⟨f, _, fun_mk (st := s__law_conflicts) l c k, PySem.W.mg_of X G a, k, (fun_mk (st := s__law_conflicts) l c k).binds (ps := ["_law_expression"]) fun _ _ _ _ _ _ us hl => match us, hl with | [_], _ => rfl⟩
theorem fd__law_near {f : Addr} {od an : Option Addr} {sl : Array (Option Value)} {oc kV dc pm cd ct : Value} (X : K.In h) (G : h.Ns mainGlobals mg) (a : PySem.W.nsIn K mainGlobals "_law_near" = some (some (.ref f)))
    (l : K.lookup f = some ⟨oc, od, .func (PySem.W.fnOf "_law_near" "_law_near" (defArgs s__law_near) (defBody s__law_near) (defScope s__law_near) .none kV dc pm an cd ct), sl⟩) (c : PySem.W.codeIn K cd "_law_near" = true) (k : PySem.W.keepIn K (.ref f) = true) : Fdef K mg "_law_near" s__law_near ["_law_expression"] :=
  ⟨f, _, fun_mk (st := s__law_near) l c k, PySem.W.mg_of X G a, k, (fun_mk (st := s__law_near) l c k).binds (ps := ["_law_expression"]) fun _ _ _ _ _ _ us hl => match us, hl with | [_], _ => rfl⟩
theorem fd__law_colorings {f : Addr} {od an : Option Addr} {sl : Array (Option Value)} {oc kV dc pm cd ct : Value} (X : K.In h) (G : h.Ns mainGlobals mg) (a : PySem.W.nsIn K mainGlobals "_law_colorings" = some (some (.ref f)))
    (l : K.lookup f = some ⟨oc, od, .func (PySem.W.fnOf "_law_colorings" "_law_colorings" (defArgs s__law_colorings) (defBody s__law_colorings) (defScope s__law_colorings) .none kV dc pm an cd ct), sl⟩) (c : PySem.W.codeIn K cd "_law_colorings" = true) (k : PySem.W.keepIn K (.ref f) = true) : Fdef K mg "_law_colorings" s__law_colorings ["_law_near_here", "_law_many"] :=
  ⟨f, _, fun_mk (st := s__law_colorings) l c k, PySem.W.mg_of X G a, k, (fun_mk (st := s__law_colorings) l c k).binds (ps := ["_law_near_here", "_law_many"]) fun _ _ _ _ _ _ us hl => match us, hl with | [_, _], _ => rfl⟩
theorem fd__law_stream {f : Addr} {od an : Option Addr} {sl : Array (Option Value)} {oc kV dc pm cd ct : Value} (X : K.In h) (G : h.Ns mainGlobals mg) (a : PySem.W.nsIn K mainGlobals "_law_stream" = some (some (.ref f)))
    (l : K.lookup f = some ⟨oc, od, .func (PySem.W.fnOf "_law_stream" "_law_stream" (defArgs s__law_stream) (defBody s__law_stream) (defScope s__law_stream) .none kV dc pm an cd ct), sl⟩) (c : PySem.W.codeIn K cd "_law_stream" = true) (k : PySem.W.keepIn K (.ref f) = true) : Fdef K mg "_law_stream" s__law_stream ["_law_script"] :=
  ⟨f, _, fun_mk (st := s__law_stream) l c k, PySem.W.mg_of X G a, k, (fun_mk (st := s__law_stream) l c k).binds (ps := ["_law_script"]) fun _ _ _ _ _ _ us hl => match us, hl with | [_], _ => rfl⟩
theorem fd__law_next {f : Addr} {od an : Option Addr} {sl : Array (Option Value)} {oc kV dc pm cd ct : Value} (X : K.In h) (G : h.Ns mainGlobals mg) (a : PySem.W.nsIn K mainGlobals "_law_next" = some (some (.ref f)))
    (l : K.lookup f = some ⟨oc, od, .func (PySem.W.fnOf "_law_next" "_law_next" (defArgs s__law_next) (defBody s__law_next) (defScope s__law_next) .none kV dc pm an cd ct), sl⟩) (c : PySem.W.codeIn K cd "_law_next" = true) (k : PySem.W.keepIn K (.ref f) = true) : Fdef K mg "_law_next" s__law_next ["_law_stream_here", "_law_many"] :=
  ⟨f, _, fun_mk (st := s__law_next) l c k, PySem.W.mg_of X G a, k, (fun_mk (st := s__law_next) l c k).binds (ps := ["_law_stream_here", "_law_many"]) fun _ _ _ _ _ _ us hl => match us, hl with | [_, _], _ => rfl⟩
theorem fd__law_pick {f : Addr} {od an : Option Addr} {sl : Array (Option Value)} {oc kV dc pm cd ct : Value} (X : K.In h) (G : h.Ns mainGlobals mg) (a : PySem.W.nsIn K mainGlobals "_law_pick" = some (some (.ref f)))
    (l : K.lookup f = some ⟨oc, od, .func (PySem.W.fnOf "_law_pick" "_law_pick" (defArgs s__law_pick) (defBody s__law_pick) (defScope s__law_pick) .none kV dc pm an cd ct), sl⟩) (c : PySem.W.codeIn K cd "_law_pick" = true) (k : PySem.W.keepIn K (.ref f) = true) : Fdef K mg "_law_pick" s__law_pick ["_law_stream_here", "_law_rows"] :=
  ⟨f, _, fun_mk (st := s__law_pick) l c k, PySem.W.mg_of X G a, k, (fun_mk (st := s__law_pick) l c k).binds (ps := ["_law_stream_here", "_law_rows"]) fun _ _ _ _ _ _ us hl => match us, hl with | [_, _], _ => rfl⟩
theorem fd__law_grown {f : Addr} {od an : Option Addr} {sl : Array (Option Value)} {oc kV dc pm cd ct : Value} (X : K.In h) (G : h.Ns mainGlobals mg) (a : PySem.W.nsIn K mainGlobals "_law_grown" = some (some (.ref f)))
    (l : K.lookup f = some ⟨oc, od, .func (PySem.W.fnOf "_law_grown" "_law_grown" (defArgs s__law_grown) (defBody s__law_grown) (defScope s__law_grown) .none kV dc pm an cd ct), sl⟩) (c : PySem.W.codeIn K cd "_law_grown" = true) (k : PySem.W.keepIn K (.ref f) = true) : Fdef K mg "_law_grown" s__law_grown ["_law_stream_here", "_law_letters_here", "_law_room", "_law_deep", "_law_outer"] :=
  ⟨f, _, fun_mk (st := s__law_grown) l c k, PySem.W.mg_of X G a, k, (fun_mk (st := s__law_grown) l c k).binds (ps := ["_law_stream_here", "_law_letters_here", "_law_room", "_law_deep", "_law_outer"]) fun _ _ _ _ _ _ us hl => match us, hl with | [_, _, _, _, _], _ => rfl⟩
theorem fd__law_crossing {f : Addr} {od an : Option Addr} {sl : Array (Option Value)} {oc kV dc pm cd ct : Value} (X : K.In h) (G : h.Ns mainGlobals mg) (a : PySem.W.nsIn K mainGlobals "_law_crossing" = some (some (.ref f)))
    (l : K.lookup f = some ⟨oc, od, .func (PySem.W.fnOf "_law_crossing" "_law_crossing" (defArgs s__law_crossing) (defBody s__law_crossing) (defScope s__law_crossing) .none kV dc pm an cd ct), sl⟩) (c : PySem.W.codeIn K cd "_law_crossing" = true) (k : PySem.W.keepIn K (.ref f) = true) : Fdef K mg "_law_crossing" s__law_crossing ["_law_stream_here", "_law_room"] :=
  ⟨f, _, fun_mk (st := s__law_crossing) l c k, PySem.W.mg_of X G a, k, (fun_mk (st := s__law_crossing) l c k).binds (ps := ["_law_stream_here", "_law_room"]) fun _ _ _ _ _ _ us hl => match us, hl with | [_, _], _ => rfl⟩
theorem txt_mk {t0 t1 t2 t3 t4 t5 uROWS vROWS uSINGLES vSINGLES : Tok} {fROWS fSINGLES : Addr} {odROWS odSINGLES : Option Addr} {nROWS nSINGLES : Nat} {slROWS slSINGLES : Array (Option Value)} (X : K.In h) (G : h.Ns mainGlobals mg)
    (z_len : PySem.W.nsIn K mainGlobals "len" = some none)
    (z_isinstance : PySem.W.nsIn K mainGlobals "isinstance" = some none)
    (z_all : PySem.W.nsIn K mainGlobals "all" = some none)
    (z_any : PySem.W.nsIn K mainGlobals "any" = some none)
    (z_sum : PySem.W.nsIn K mainGlobals "sum" = some none)
    (z_max : PySem.W.nsIn K mainGlobals "max" = some none)
    (z_min : PySem.W.nsIn K mainGlobals "min" = some none)
    (z_sorted : PySem.W.nsIn K mainGlobals "sorted" = some none)
    (z_abs : PySem.W.nsIn K mainGlobals "abs" = some none)
    (z_range : PySem.W.nsIn K mainGlobals "range" = some none)
    (z_tuple : PySem.W.nsIn K mainGlobals "tuple" = some none)
    (z_list : PySem.W.nsIn K mainGlobals "list" = some none)
    (z_int : PySem.W.nsIn K mainGlobals "int" = some none)
    (z_str : PySem.W.nsIn K mainGlobals "str" = some none)
    (z_bool : PySem.W.nsIn K mainGlobals "bool" = some none)
    (m_LETTERS : PySem.W.nsIn K mainGlobals "LETTERS" = some (some (.str "abcd" t0)))
    (m_MOST_LETTERS : PySem.W.nsIn K mainGlobals "MOST_LETTERS" = some (some (.int 8 t1)))
    (m_DEEPEST : PySem.W.nsIn K mainGlobals "DEEPEST" = some (some (.int 6 t2)))
    (m_MOST_PARTS : PySem.W.nsIn K mainGlobals "MOST_PARTS" = some (some (.int 24 t3)))
    (m_MOST_LONG_PARTS : PySem.W.nsIn K mainGlobals "MOST_LONG_PARTS" = some (some (.int 200 t4)))
    (m_MOST_COLORS : PySem.W.nsIn K mainGlobals "MOST_COLORS" = some (some (.int 8 t5)))
    (a_ROWS : PySem.W.nsIn K mainGlobals "ROWS" = some (some (.ref fROWS))) (l_ROWS : K.lookup fROWS = some ⟨.type "tuple", odROWS, .seq #[.str "join" uROWS, .str "or" vROWS] nROWS, slROWS⟩)
    (a_SINGLES : PySem.W.nsIn K mainGlobals "SINGLES" = some (some (.ref fSINGLES))) (l_SINGLES : K.lookup fSINGLES = some ⟨.type "tuple", odSINGLES, .seq #[.str "maybe" uSINGLES, .str "many" vSINGLES] nSINGLES, slSINGLES⟩) : Txt K mg :=
  ⟨PySem.W.mg_none_of X G z_len,
   PySem.W.mg_none_of X G z_isinstance,
   PySem.W.mg_none_of X G z_all,
   PySem.W.mg_none_of X G z_any,
   PySem.W.mg_none_of X G z_sum,
   PySem.W.mg_none_of X G z_max,
   PySem.W.mg_none_of X G z_min,
   PySem.W.mg_none_of X G z_sorted,
   PySem.W.mg_none_of X G z_abs,
   PySem.W.mg_none_of X G z_range,
   PySem.W.mg_none_of X G z_tuple,
   PySem.W.mg_none_of X G z_list,
   PySem.W.mg_none_of X G z_int,
   PySem.W.mg_none_of X G z_str,
   PySem.W.mg_none_of X G z_bool,
   ⟨_, PySem.W.mg_of X G m_LETTERS, _, rfl⟩,
   ⟨_, PySem.W.mg_of X G m_MOST_LETTERS, _, rfl⟩,
   ⟨_, PySem.W.mg_of X G m_DEEPEST, _, rfl⟩,
   ⟨_, PySem.W.mg_of X G m_MOST_PARTS, _, rfl⟩,
   ⟨_, PySem.W.mg_of X G m_MOST_LONG_PARTS, _, rfl⟩,
   ⟨_, PySem.W.mg_of X G m_MOST_COLORS, _, rfl⟩,
   ⟨fROWS, PySem.W.mg_of X G a_ROWS, fun _ => .inr ⟨_, _, _, l_ROWS, rfl, rfl, by show 2 ≤ sizeLine; decide, .cons ⟨_, rfl⟩ (.cons ⟨_, rfl⟩ .nil)⟩⟩,
   ⟨fSINGLES, PySem.W.mg_of X G a_SINGLES, fun _ => .inr ⟨_, _, _, l_SINGLES, rfl, rfl, by show 2 ≤ sizeLine; decide, .cons ⟨_, rfl⟩ (.cons ⟨_, rfl⟩ .nil)⟩⟩⟩
end
theorem all_ok {P : Program} {w : World} {K : PySem.W.Frag} {mg : Str → Option Value} {base : Heap} {f : Addr} {fd : FuncData} (T : Txt K mg)
    (D_is_leaf : Fdef K mg "is_leaf" s_is_leaf ["value"])
    (D_parts_of : Fdef K mg "parts_of" s_parts_of ["expression"])
    (D_letters_of : Fdef K mg "letters_of" s_letters_of ["expression"])
    (D_count_of : Fdef K mg "count_of" s_count_of ["expression"])
    (D_has_empty : Fdef K mg "has_empty" s_has_empty ["expression"])
    (D_has_form : Fdef K mg "has_form" s_has_form ["value", "outer", "deep"])
    (D_is_expression : Fdef K mg "is_expression" s_is_expression ["value"])
    (D_check_expression : Fdef K mg "check_expression" s_check_expression ["value"])
    (D_gathered : Fdef K mg "gathered" s_gathered ["expression", "start"])
    (D_ordered : Fdef K mg "ordered" s_ordered ["places"])
    (D_pairs_in : Fdef K mg "pairs_in" s_pairs_in ["letters", "places"])
    (D_tables_of : Fdef K mg "tables_of" s_tables_of ["expression"])
    (D_conflicts_in : Fdef K mg "conflicts_in" s_conflicts_in ["tables"])
    (D_conflicts_of : Fdef K mg "conflicts_of" s_conflicts_of ["expression"])
    (D_is_number : Fdef K mg "is_number" s_is_number ["value", "low", "high"])
    (D_neighbours_of : Fdef K mg "neighbours_of" s_neighbours_of ["expression"])
    (D_do_separate : Fdef K mg "do_separate" s_do_separate ["expression", "value"])
    (D_separates : Fdef K mg "separates" s_separates ["expression", "value"])
    (D_first_coloring : Fdef K mg "first_coloring" s_first_coloring ["near", "many"])
    (D_crowd_in : Fdef K mg "crowd_in" s_crowd_in ["near"])
    (D_told_with : Fdef K mg "told_with" s_told_with ["near"])
    (D_color_number : Fdef K mg "color_number" s_color_number ["expression"])
    (D_told_coloring : Fdef K mg "told_coloring" s_told_coloring ["expression"])
    (D__law_inside : Fdef K mg "_law_inside" s__law_inside ["_law_expression"])
    (D__law_letters : Fdef K mg "_law_letters" s__law_letters ["_law_expression"])
    (D__law_count : Fdef K mg "_law_count" s__law_count ["_law_expression"])
    (D__law_is_integer : Fdef K mg "_law_is_integer" s__law_is_integer ["_law_actual"])
    (D__law_equal : Fdef K mg "_law_equal" s__law_equal ["_law_actual", "_law_due"])
    (D__law_once : Fdef K mg "_law_once" s__law_once ["_law_rows"])
    (D__law_looks : Fdef K mg "_law_looks" s__law_looks ["_law_expression", "_law_start"])
    (D__law_conflicts : Fdef K mg "_law_conflicts" s__law_conflicts ["_law_expression"])
    (D__law_near : Fdef K mg "_law_near" s__law_near ["_law_expression"])
    (D__law_colorings : Fdef K mg "_law_colorings" s__law_colorings ["_law_near_here", "_law_many"])
    (D__law_stream : Fdef K mg "_law_stream" s__law_stream ["_law_script"])
    (D__law_next : Fdef K mg "_law_next" s__law_next ["_law_stream_here", "_law_many"])
    (D__law_pick : Fdef K mg "_law_pick" s__law_pick ["_law_stream_here", "_law_rows"])
    (D__law_grown : Fdef K mg "_law_grown" s__law_grown ["_law_stream_here", "_law_letters_here", "_law_room", "_law_deep", "_law_outer"])
    (D__law_crossing : Fdef K mg "_law_crossing" s__law_crossing ["_law_stream_here", "_law_room"])
    (F : Fun K "law" "law" s_law f fd) : FnOk P w K mg base CX0 60 f fd ["_law_script"] (spLaw K) := by
  have c_is_leaf : Cd P w K mg base 1 "is_leaf" ["value"] spLeaf := D_is_leaf.cd fun f fd F => ok_is_leaf (k := 0) T F 
  have c_parts_of : Cd P w K mg base 1 "parts_of" ["expression"] spParts := D_parts_of.cd fun f fd F => ok_parts_of (k := 0) T F 
  have c_letters_of : ∀ n, Cd P w K mg base (1 + n) "letters_of" ["expression"] (spLets n) := fun n => by
    induction n with
    | zero => exact D_letters_of.cd fun f fd F => no_ok (fun vs H Q E h => by obtain ⟨_, _, _, _, _, h, _⟩ := h; omega)
    | succ n ih => exact D_letters_of.cd fun f fd F => ok_letters_of (k := 1 + n) T F (c_parts_of.mono (by omega)) ih
  have c_count_of : ∀ n, Cd P w K mg base (1 + n) "count_of" ["expression"] (spCnt n) := fun n => by
    induction n with
    | zero => exact D_count_of.cd fun f fd F => no_ok (fun vs H Q E h => by obtain ⟨_, _, _, _, _, h, _⟩ := h; omega)
    | succ n ih => exact D_count_of.cd fun f fd F => ok_count_of (k := 1 + n) T F (c_parts_of.mono (by omega)) ih
  have c_has_empty : ∀ n, Cd P w K mg base (0 + n) "has_empty" ["expression"] (spHas n) := fun n => by
    induction n with
    | zero => exact D_has_empty.cd fun f fd F => no_ok (fun vs H Q E h => by obtain ⟨_, _, _, _, _, h, _⟩ := h; omega)
    | succ n ih => exact D_has_empty.cd fun f fd F => ok_has_empty (k := 0 + n) T F ih
  have c_has_form : ∀ n, Cd P w K mg base (1 + n) "has_form" ["value", "outer", "deep"] (spForm n) := fun n => by
    induction n with
    | zero => exact D_has_form.cd fun f fd F => no_ok (fun vs H Q E h => by obtain ⟨_, _, _, _, _, h, _⟩ := h; omega)
    | succ n ih => exact D_has_form.cd fun f fd F => ok_has_form (k := 1 + n) T F (c_is_leaf.mono (by omega)) ih
  have c_is_expression : Cd P w K mg base 9 "is_expression" ["value"] spIsEx := D_is_expression.cd fun f fd F => ok_is_expression (k := 8) T F ((c_has_form 7).mono (by decide)) ((c_count_of 7).mono (by decide)) ((c_letters_of 7).mono (by decide))
  have c_check_expression : Cd P w K mg base 10 "check_expression" ["value"] spCheck := D_check_expression.cd fun f fd F => ok_check_expression (k := 9) T F (c_is_expression.mono (by decide))
  have c_gathered : ∀ n, n ≤ 8 → Cd P w K mg base (1 + n) "gathered" ["expression", "start"] (spGath n) := fun n => by
    induction n with
    | zero => exact fun _ => D_gathered.cd fun f fd F => no_ok (fun vs H Q E h => by obtain ⟨_, _, _, _, _, _, h, _⟩ := h; omega)
    | succ n ih0 =>
      intro hn
      have ih := ih0 (by omega)
      exact D_gathered.cd fun f fd F => ok_gathered (k := 1 + n) (by omega) T F ih (c_parts_of.mono (by omega)) ((c_letters_of n).mono (by omega)) ((c_has_empty n).mono (by omega))
  replace c_gathered : ∀ n : Nat, Cd P w K mg base (1 + min n 8) "gathered" ["expression", "start"] (spGath (min n 8)) := fun n => c_gathered _ (by omega)
  have c_ordered : Cd P w K mg base 1 "ordered" ["places"] spOrd := D_ordered.cd fun f fd F => ok_ordered (k := 0) T F 
  have c_pairs_in : Cd P w K mg base 1 "pairs_in" ["letters", "places"] spPrs := D_pairs_in.cd fun f fd F => ok_pairs_in (k := 0) T F 
  have c_tables_of : Cd P w K mg base 9 "tables_of" ["expression"] spTab := D_tables_of.cd fun f fd F => ok_tables_of (k := 8) T F ((c_letters_of 7).mono (by decide)) ((c_gathered 7).mono (by decide)) (c_ordered.mono (by decide)) ((c_has_empty 7).mono (by decide))
  have c_conflicts_in : Cd P w K mg base 2 "conflicts_in" ["tables"] spCIn := D_conflicts_in.cd fun f fd F => ok_conflicts_in (k := 1) T F (c_pairs_in.mono (by decide))
  have c_conflicts_of : Cd P w K mg base 10 "conflicts_of" ["expression"] spConf := D_conflicts_of.cd fun f fd F => ok_conflicts_of (k := 9) T F (c_conflicts_in.mono (by decide)) (c_tables_of.mono (by decide))
  have c_is_number : Cd P w K mg base 1 "is_number" ["value", "low", "high"] spNum := D_is_number.cd fun f fd F => ok_is_number (k := 0) T F 
  have c_neighbours_of : Cd P w K mg base 11 "neighbours_of" ["expression"] spNear := D_neighbours_of.cd fun f fd F => ok_neighbours_of (k := 10) T F ((c_letters_of 7).mono (by decide)) (c_conflicts_of.mono (by decide))
  have c_do_separate : Cd P w K mg base 11 "do_separate" ["expression", "value"] spSep := D_do_separate.cd fun f fd F => ok_do_separate (k := 10) T F ((c_letters_of 7).mono (by decide)) (c_is_number.mono (by decide)) (c_conflicts_of.mono (by decide))
  have c_separates : Cd P w K mg base 12 "separates" ["expression", "value"] spSep := D_separates.cd fun f fd F => ok_separates (k := 11) T F (c_check_expression.mono (by decide)) (c_do_separate.mono (by decide))
  have c_first_coloring : Cd P w K mg base 1 "first_coloring" ["near", "many"] spFirst := D_first_coloring.cd fun f fd F => ok_first_coloring (k := 0) T F 
  have c_crowd_in : Cd P w K mg base 1 "crowd_in" ["near"] spCrowd := D_crowd_in.cd fun f fd F => ok_crowd_in (k := 0) T F 
  have c_told_with : Cd P w K mg base 2 "told_with" ["near"] spTold := D_told_with.cd fun f fd F => ok_told_with (k := 1) T F (c_crowd_in.mono (by decide)) (c_first_coloring.mono (by decide))
  have c_color_number : Cd P w K mg base 12 "color_number" ["expression"] spNumC := D_color_number.cd fun f fd F => ok_color_number (k := 11) T F (c_check_expression.mono (by decide)) (c_told_with.mono (by decide)) (c_neighbours_of.mono (by decide))
  have c_told_coloring : Cd P w K mg base 12 "told_coloring" ["expression"] spColoring := D_told_coloring.cd fun f fd F => ok_told_coloring (k := 11) T F (c_check_expression.mono (by decide)) (c_told_with.mono (by decide)) (c_neighbours_of.mono (by decide))
  have c__law_inside : Cd P w K mg base 1 "_law_inside" ["_law_expression"] spParts := D__law_inside.cd fun f fd F => ok__law_inside (k := 0) T F 
  have c__law_letters : ∀ n, Cd P w K mg base (1 + n) "_law_letters" ["_law_expression"] (spLets n) := fun n => by
    induction n with
    | zero => exact D__law_letters.cd fun f fd F => no_ok (fun vs H Q E h => by obtain ⟨_, _, _, _, _, h, _⟩ := h; omega)
    | succ n ih => exact D__law_letters.cd fun f fd F => ok__law_letters (k := 1 + n) T F (c__law_inside.mono (by omega)) ih
  have c__law_count : ∀ n, Cd P w K mg base (1 + n) "_law_count" ["_law_expression"] (spCnt n) := fun n => by
    induction n with
    | zero => exact D__law_count.cd fun f fd F => no_ok (fun vs H Q E h => by obtain ⟨_, _, _, _, _, h, _⟩ := h; omega)
    | succ n ih => exact D__law_count.cd fun f fd F => ok__law_count (k := 1 + n) T F (c__law_inside.mono (by omega)) ih
  have c__law_is_integer : Cd P w K mg base 1 "_law_is_integer" ["_law_actual"] spIsInt := D__law_is_integer.cd fun f fd F => ok__law_is_integer (k := 0) T F 
  have c__law_equal : ∀ n, Cd P w K mg base (1 + n) "_law_equal" ["_law_actual", "_law_due"] (spEq n) := fun n => by
    induction n with
    | zero => exact D__law_equal.cd fun f fd F => no_ok (fun vs H Q E h => by obtain ⟨_, _, _, h, _⟩ := h; exact h)
    | succ n ih => exact D__law_equal.cd fun f fd F => ok__law_equal (k := 1 + n) T F (c__law_is_integer.mono (by omega)) ih
  have c__law_once : Cd P w K mg base 1 "_law_once" ["_law_rows"] spOnce := D__law_once.cd fun f fd F => ok__law_once (k := 0) T F 
  have c__law_looks : ∀ n, n ≤ 8 → Cd P w K mg base (0 + n) "_law_looks" ["_law_expression", "_law_start"] (spLook n) := fun n => by
    induction n with
    | zero => exact fun _ => D__law_looks.cd fun f fd F => no_ok (fun vs H Q E h => by obtain ⟨_, _, _, _, _, _, h, _⟩ := h; omega)
    | succ n ih0 =>
      intro hn
      have ih := ih0 (by omega)
      exact D__law_looks.cd fun f fd F => ok__law_looks (k := 0 + n) (by omega) T F ih
  replace c__law_looks : ∀ n : Nat, Cd P w K mg base (0 + min n 8) "_law_looks" ["_law_expression", "_law_start"] (spLook (min n 8)) := fun n => c__law_looks _ (by omega)
  have c__law_conflicts : Cd P w K mg base 9 "_law_conflicts" ["_law_expression"] spLConf := D__law_conflicts.cd fun f fd F => ok__law_conflicts (k := 8) T F ((c__law_looks 7).mono (by decide)) ((c__law_letters 7).mono (by decide)) (c__law_once.mono (by decide))
  have c__law_near : Cd P w K mg base 10 "_law_near" ["_law_expression"] spLNear := D__law_near.cd fun f fd F => ok__law_near (k := 9) T F (c__law_conflicts.mono (by decide)) ((c__law_letters 7).mono (by decide))
  have c__law_colorings : Cd P w K mg base 1 "_law_colorings" ["_law_near_here", "_law_many"] spCols := D__law_colorings.cd fun f fd F => ok__law_colorings (k := 0) T F 
  have c__law_stream : Cd P w K mg base 1 "_law_stream" ["_law_script"] (spStream K) := D__law_stream.cd fun f fd F => ok__law_stream (k := 0) T F 
  have c__law_next : Cd P w K mg base 1 "_law_next" ["_law_stream_here", "_law_many"] spNext := D__law_next.cd fun f fd F => ok__law_next (k := 0) T F 
  have c__law_pick : Cd P w K mg base 2 "_law_pick" ["_law_stream_here", "_law_rows"] spPick := D__law_pick.cd fun f fd F => ok__law_pick (k := 1) T F (c__law_next.mono (by decide))
  have c__law_grown : ∀ n, Cd P w K mg base (2 + n) "_law_grown" ["_law_stream_here", "_law_letters_here", "_law_room", "_law_deep", "_law_outer"] (spGrown n) := fun n => by
    induction n with
    | zero => exact D__law_grown.cd fun f fd F => no_ok (fun vs H Q E h => by obtain ⟨_, _, _, _, _, _, _, h, _⟩ := h; exact Nat.not_lt_zero _ h)
    | succ n ih => exact D__law_grown.cd fun f fd F => ok__law_grown (k := 2 + n) T F (c__law_next.mono (by omega)) (c__law_pick.mono (by omega)) ih
  have c__law_crossing : Cd P w K mg base 9 "_law_crossing" ["_law_stream_here", "_law_room"] spCross := D__law_crossing.cd fun f fd F => ok__law_crossing (k := 8) T F (c__law_next.mono (by decide)) (c__law_pick.mono (by decide)) ((c__law_grown 5).mono (by decide)) ((c__law_count 7).mono (by decide))
  exact (ok_law (k := 12) T F (c__law_stream.mono (by decide)) (c__law_crossing.mono (by decide)) (c__law_near.mono (by decide)) (c__law_colorings.mono (by decide)) ((c__law_equal 3).mono (by decide)) (c_color_number.mono (by decide)) (c_told_coloring.mono (by decide)) (c__law_next.mono (by decide)) (c__law_pick.mono (by decide)) (c_separates.mono (by decide))).mono (by decide)
theorem law_mk {l : PySem.W.OpenLaw} {w : World} {K : PySem.W.Frag} {h : Heap} {mg : Str → Option Value} {fa f : Addr} (X : K.In h) (G : h.Ns mainGlobals mg) (hfa : mg "law" = some (.ref fa)) (T : Txt K mg)
    (D_is_leaf : Fdef K mg "is_leaf" s_is_leaf ["value"])
    (D_parts_of : Fdef K mg "parts_of" s_parts_of ["expression"])
    (D_letters_of : Fdef K mg "letters_of" s_letters_of ["expression"])
    (D_count_of : Fdef K mg "count_of" s_count_of ["expression"])
    (D_has_empty : Fdef K mg "has_empty" s_has_empty ["expression"])
    (D_has_form : Fdef K mg "has_form" s_has_form ["value", "outer", "deep"])
    (D_is_expression : Fdef K mg "is_expression" s_is_expression ["value"])
    (D_check_expression : Fdef K mg "check_expression" s_check_expression ["value"])
    (D_gathered : Fdef K mg "gathered" s_gathered ["expression", "start"])
    (D_ordered : Fdef K mg "ordered" s_ordered ["places"])
    (D_pairs_in : Fdef K mg "pairs_in" s_pairs_in ["letters", "places"])
    (D_tables_of : Fdef K mg "tables_of" s_tables_of ["expression"])
    (D_conflicts_in : Fdef K mg "conflicts_in" s_conflicts_in ["tables"])
    (D_conflicts_of : Fdef K mg "conflicts_of" s_conflicts_of ["expression"])
    (D_is_number : Fdef K mg "is_number" s_is_number ["value", "low", "high"])
    (D_neighbours_of : Fdef K mg "neighbours_of" s_neighbours_of ["expression"])
    (D_do_separate : Fdef K mg "do_separate" s_do_separate ["expression", "value"])
    (D_separates : Fdef K mg "separates" s_separates ["expression", "value"])
    (D_first_coloring : Fdef K mg "first_coloring" s_first_coloring ["near", "many"])
    (D_crowd_in : Fdef K mg "crowd_in" s_crowd_in ["near"])
    (D_told_with : Fdef K mg "told_with" s_told_with ["near"])
    (D_color_number : Fdef K mg "color_number" s_color_number ["expression"])
    (D_told_coloring : Fdef K mg "told_coloring" s_told_coloring ["expression"])
    (D__law_inside : Fdef K mg "_law_inside" s__law_inside ["_law_expression"])
    (D__law_letters : Fdef K mg "_law_letters" s__law_letters ["_law_expression"])
    (D__law_count : Fdef K mg "_law_count" s__law_count ["_law_expression"])
    (D__law_is_integer : Fdef K mg "_law_is_integer" s__law_is_integer ["_law_actual"])
    (D__law_equal : Fdef K mg "_law_equal" s__law_equal ["_law_actual", "_law_due"])
    (D__law_once : Fdef K mg "_law_once" s__law_once ["_law_rows"])
    (D__law_looks : Fdef K mg "_law_looks" s__law_looks ["_law_expression", "_law_start"])
    (D__law_conflicts : Fdef K mg "_law_conflicts" s__law_conflicts ["_law_expression"])
    (D__law_near : Fdef K mg "_law_near" s__law_near ["_law_expression"])
    (D__law_colorings : Fdef K mg "_law_colorings" s__law_colorings ["_law_near_here", "_law_many"])
    (D__law_stream : Fdef K mg "_law_stream" s__law_stream ["_law_script"])
    (D__law_next : Fdef K mg "_law_next" s__law_next ["_law_stream_here", "_law_many"])
    (D__law_pick : Fdef K mg "_law_pick" s__law_pick ["_law_stream_here", "_law_rows"])
    (D__law_grown : Fdef K mg "_law_grown" s__law_grown ["_law_stream_here", "_law_letters_here", "_law_room", "_law_deep", "_law_outer"])
    (D__law_crossing : Fdef K mg "_law_crossing" s__law_crossing ["_law_stream_here", "_law_room"])
    {od an : Option Addr} {sl : Array (Option Value)} {oc kV dc pm cd ct : Value} (a : PySem.W.nsIn K mainGlobals "law" = some (some (.ref f)))
    (l' : K.lookup f = some ⟨oc, od, .func (PySem.W.fnOf "law" "law" (defArgs s_law) (defBody s_law) (defScope s_law) .none kV dc pm an cd ct), sl⟩) (c : PySem.W.codeIn K cd "law" = true) (k : PySem.W.keepIn K (.ref f) = true) :
    ∃ fd : FuncData, (∀ (s : Shared) (v : Value), BindsTo s fd ⟨[v], []⟩ [("_law_script", v)]) ∧ ∀ base : Heap, K.In base → base.Ns mainGlobals mg → FnOk l.prog w K mg base CX0 60 fa fd ["_law_script"] (spLaw K) := by
  have e := hfa.symm.trans (PySem.W.mg_of X G a)
  cases e
  refine ⟨PySem.W.fnOf "law" "law" (defArgs s_law) (defBody s_law) (defScope s_law) .none kV dc pm an cd ct, fun s v => .of_eq rfl, fun base _ _ => ?_⟩
  exact all_ok T D_is_leaf D_parts_of D_letters_of D_count_of D_has_empty D_has_form D_is_expression D_check_expression D_gathered D_ordered D_pairs_in D_tables_of D_conflicts_in D_conflicts_of D_is_number D_neighbours_of D_do_separate D_separates D_first_coloring D_crowd_in D_told_with D_color_number D_told_coloring D__law_inside D__law_letters D__law_count D__law_is_integer D__law_equal D__law_once D__law_looks D__law_conflicts D__law_near D__law_colorings D__law_stream D__law_next D__law_pick D__law_grown D__law_crossing (fun_mk (st := s_law) l' c k)
theorem walk {l : PySem.W.OpenLaw} {q : Program} {loose : List Str} {XP : (Str → Option Value) → Heap → Prop} {YP : World → Heap → Prop} {d : DefRec} {K : Params → PySem.W.Frag} (hn : l.most = some 63) (hdf : d.params.defaults = [])
    (hY : ∀ (w : World) (h : Heap), YP w h → (K w.params).In h)
    (F : ∀ (w : World) (mg : Str → Option Value) (fa : Addr) (h : Heap), (K w.params).In h → h.Ns mainGlobals mg → mg d.name = some (.ref fa) →
      ∃ fd : FuncData, (∀ (s : Shared) (u : Value), BindsTo s fd ⟨[u], []⟩ [("_law_script", u)]) ∧ ∀ base : Heap, (K w.params).In base → base.Ns mainGlobals mg → FnOk l.prog w (K w.params) mg base CX0 60 fa fd ["_law_script"] (spLaw (K w.params))) :
    PySem.W.WalkO q loose XP YP l.row.toRowW d [] (fun f vs => PySem.call f vs) :=
  L2.walk_of (n := 63) (k := 60) (x := "_law_script") (CX := fun _ => CX0) (sp := fun w => spLaw (K w.params)) hn (by decide) hdf ⟨rfl, by decide, by decide⟩ hY F (fun _ _ a ns hl _ hS => ⟨a, ns, rfl, hS, fun _ => rfl⟩) fun _ _ _ _ _ z => z
end K65
end

open PySem PySem.W PyProof.Rows
set_option maxRecDepth 100000 in
set_option maxHeartbeats 0 in
theorem PySem.Challenge.cw_nodoubt_k65_whole_colors_holds : PySem.Challenge.rw_nodoubt_k65_whole_colors.Holds := by
  w_on; o_law; k_head; (case hw => w_witness2)
  k_fill
  refine K65.walk (l := PySem.Challenge.rw_nodoubt_k65_whole_colors) rfl rfl (fun w h Y => PySem.W.kIn_of Y) ?F
  case F =>
    intro w mg fa h KX G hmg
    refine' K65.law_mk KX G hmg (K65.txt_mk KX G ?z_len ?z_isinstance ?z_all ?z_any ?z_sum ?z_max ?z_min ?z_sorted ?z_abs ?z_range ?z_tuple ?z_list ?z_int ?z_str ?z_bool ?m_LETTERS ?m_MOST_LETTERS ?m_DEEPEST ?m_MOST_PARTS ?m_MOST_LONG_PARTS ?m_MOST_COLORS ?a_ROWS ?l_ROWS ?a_SINGLES ?l_SINGLES)
      (K65.fd_is_leaf KX G ?a_is_leaf ?l_is_leaf ?c_is_leaf ?k_is_leaf)
      (K65.fd_parts_of KX G ?a_parts_of ?l_parts_of ?c_parts_of ?k_parts_of)
      (K65.fd_letters_of KX G ?a_letters_of ?l_letters_of ?c_letters_of ?k_letters_of)
      (K65.fd_count_of KX G ?a_count_of ?l_count_of ?c_count_of ?k_count_of)
      (K65.fd_has_empty KX G ?a_has_empty ?l_has_empty ?c_has_empty ?k_has_empty)
      (K65.fd_has_form KX G ?a_has_form ?l_has_form ?c_has_form ?k_has_form)
      (K65.fd_is_expression KX G ?a_is_expression ?l_is_expression ?c_is_expression ?k_is_expression)
      (K65.fd_check_expression KX G ?a_check_expression ?l_check_expression ?c_check_expression ?k_check_expression)
      (K65.fd_gathered KX G ?a_gathered ?l_gathered ?c_gathered ?k_gathered)
      (K65.fd_ordered KX G ?a_ordered ?l_ordered ?c_ordered ?k_ordered)
      (K65.fd_pairs_in KX G ?a_pairs_in ?l_pairs_in ?c_pairs_in ?k_pairs_in)
      (K65.fd_tables_of KX G ?a_tables_of ?l_tables_of ?c_tables_of ?k_tables_of)
      (K65.fd_conflicts_in KX G ?a_conflicts_in ?l_conflicts_in ?c_conflicts_in ?k_conflicts_in)
      (K65.fd_conflicts_of KX G ?a_conflicts_of ?l_conflicts_of ?c_conflicts_of ?k_conflicts_of)
      (K65.fd_is_number KX G ?a_is_number ?l_is_number ?c_is_number ?k_is_number)
      (K65.fd_neighbours_of KX G ?a_neighbours_of ?l_neighbours_of ?c_neighbours_of ?k_neighbours_of)
      (K65.fd_do_separate KX G ?a_do_separate ?l_do_separate ?c_do_separate ?k_do_separate)
      (K65.fd_separates KX G ?a_separates ?l_separates ?c_separates ?k_separates)
      (K65.fd_first_coloring KX G ?a_first_coloring ?l_first_coloring ?c_first_coloring ?k_first_coloring)
      (K65.fd_crowd_in KX G ?a_crowd_in ?l_crowd_in ?c_crowd_in ?k_crowd_in)
      (K65.fd_told_with KX G ?a_told_with ?l_told_with ?c_told_with ?k_told_with)
      (K65.fd_color_number KX G ?a_color_number ?l_color_number ?c_color_number ?k_color_number)
      (K65.fd_told_coloring KX G ?a_told_coloring ?l_told_coloring ?c_told_coloring ?k_told_coloring)
      (K65.fd__law_inside KX G ?a__law_inside ?l__law_inside ?c__law_inside ?k__law_inside)
      (K65.fd__law_letters KX G ?a__law_letters ?l__law_letters ?c__law_letters ?k__law_letters)
      (K65.fd__law_count KX G ?a__law_count ?l__law_count ?c__law_count ?k__law_count)
      (K65.fd__law_is_integer KX G ?a__law_is_integer ?l__law_is_integer ?c__law_is_integer ?k__law_is_integer)
      (K65.fd__law_equal KX G ?a__law_equal ?l__law_equal ?c__law_equal ?k__law_equal)
      (K65.fd__law_once KX G ?a__law_once ?l__law_once ?c__law_once ?k__law_once)
      (K65.fd__law_looks KX G ?a__law_looks ?l__law_looks ?c__law_looks ?k__law_looks)
      (K65.fd__law_conflicts KX G ?a__law_conflicts ?l__law_conflicts ?c__law_conflicts ?k__law_conflicts)
      (K65.fd__law_near KX G ?a__law_near ?l__law_near ?c__law_near ?k__law_near)
      (K65.fd__law_colorings KX G ?a__law_colorings ?l__law_colorings ?c__law_colorings ?k__law_colorings)
      (K65.fd__law_stream KX G ?a__law_stream ?l__law_stream ?c__law_stream ?k__law_stream)
      (K65.fd__law_next KX G ?a__law_next ?l__law_next ?c__law_next ?k__law_next)
      (K65.fd__law_pick KX G ?a__law_pick ?l__law_pick ?c__law_pick ?k__law_pick)
      (K65.fd__law_grown KX G ?a__law_grown ?l__law_grown ?c__law_grown ?k__law_grown)
      (K65.fd__law_crossing KX G ?a__law_crossing ?l__law_crossing ?c__law_crossing ?k__law_crossing)
      ?a_law ?l_law ?c_law ?k_law
    (case z_len => k_is)
    (case z_isinstance => k_is)
    (case z_all => k_is)
    (case z_any => k_is)
    (case z_sum => k_is)
    (case z_max => k_is)
    (case z_min => k_is)
    (case z_sorted => k_is)
    (case z_abs => k_is)
    (case z_range => k_is)
    (case z_tuple => k_is)
    (case z_list => k_is)
    (case z_int => k_is)
    (case z_str => k_is)
    (case z_bool => k_is)
    (case m_LETTERS => k_is)
    (case m_MOST_LETTERS => k_is)
    (case m_DEEPEST => k_is)
    (case m_MOST_PARTS => k_is)
    (case m_MOST_LONG_PARTS => k_is)
    (case m_MOST_COLORS => k_is)
    (case a_ROWS => k_is)
    (case l_ROWS => k_is)
    (case a_SINGLES => k_is)
    (case l_SINGLES => k_is)
    (case a_is_leaf => k_is); (case l_is_leaf => k_is); (case c_is_leaf => k_is); (case k_is_leaf => k_is)
    (case a_parts_of => k_is); (case l_parts_of => k_is); (case c_parts_of => k_is); (case k_parts_of => k_is)
    (case a_letters_of => k_is); (case l_letters_of => k_is); (case c_letters_of => k_is); (case k_letters_of => k_is)
    (case a_count_of => k_is); (case l_count_of => k_is); (case c_count_of => k_is); (case k_count_of => k_is)
    (case a_has_empty => k_is); (case l_has_empty => k_is); (case c_has_empty => k_is); (case k_has_empty => k_is)
    (case a_has_form => k_is); (case l_has_form => k_is); (case c_has_form => k_is); (case k_has_form => k_is)
    (case a_is_expression => k_is); (case l_is_expression => k_is); (case c_is_expression => k_is); (case k_is_expression => k_is)
    (case a_check_expression => k_is); (case l_check_expression => k_is); (case c_check_expression => k_is); (case k_check_expression => k_is)
    (case a_gathered => k_is); (case l_gathered => k_is); (case c_gathered => k_is); (case k_gathered => k_is)
    (case a_ordered => k_is); (case l_ordered => k_is); (case c_ordered => k_is); (case k_ordered => k_is)
    (case a_pairs_in => k_is); (case l_pairs_in => k_is); (case c_pairs_in => k_is); (case k_pairs_in => k_is)
    (case a_tables_of => k_is); (case l_tables_of => k_is); (case c_tables_of => k_is); (case k_tables_of => k_is)
    (case a_conflicts_in => k_is); (case l_conflicts_in => k_is); (case c_conflicts_in => k_is); (case k_conflicts_in => k_is)
    (case a_conflicts_of => k_is); (case l_conflicts_of => k_is); (case c_conflicts_of => k_is); (case k_conflicts_of => k_is)
    (case a_is_number => k_is); (case l_is_number => k_is); (case c_is_number => k_is); (case k_is_number => k_is)
    (case a_neighbours_of => k_is); (case l_neighbours_of => k_is); (case c_neighbours_of => k_is); (case k_neighbours_of => k_is)
    (case a_do_separate => k_is); (case l_do_separate => k_is); (case c_do_separate => k_is); (case k_do_separate => k_is)
    (case a_separates => k_is); (case l_separates => k_is); (case c_separates => k_is); (case k_separates => k_is)
    (case a_first_coloring => k_is); (case l_first_coloring => k_is); (case c_first_coloring => k_is); (case k_first_coloring => k_is)
    (case a_crowd_in => k_is); (case l_crowd_in => k_is); (case c_crowd_in => k_is); (case k_crowd_in => k_is)
    (case a_told_with => k_is); (case l_told_with => k_is); (case c_told_with => k_is); (case k_told_with => k_is)
    (case a_color_number => k_is); (case l_color_number => k_is); (case c_color_number => k_is); (case k_color_number => k_is)
    (case a_told_coloring => k_is); (case l_told_coloring => k_is); (case c_told_coloring => k_is); (case k_told_coloring => k_is)
    (case a__law_inside => k_is); (case l__law_inside => k_is); (case c__law_inside => k_is); (case k__law_inside => k_is)
    (case a__law_letters => k_is); (case l__law_letters => k_is); (case c__law_letters => k_is); (case k__law_letters => k_is)
    (case a__law_count => k_is); (case l__law_count => k_is); (case c__law_count => k_is); (case k__law_count => k_is)
    (case a__law_is_integer => k_is); (case l__law_is_integer => k_is); (case c__law_is_integer => k_is); (case k__law_is_integer => k_is)
    (case a__law_equal => k_is); (case l__law_equal => k_is); (case c__law_equal => k_is); (case k__law_equal => k_is)
    (case a__law_once => k_is); (case l__law_once => k_is); (case c__law_once => k_is); (case k__law_once => k_is)
    (case a__law_looks => k_is); (case l__law_looks => k_is); (case c__law_looks => k_is); (case k__law_looks => k_is)
    (case a__law_conflicts => k_is); (case l__law_conflicts => k_is); (case c__law_conflicts => k_is); (case k__law_conflicts => k_is)
    (case a__law_near => k_is); (case l__law_near => k_is); (case c__law_near => k_is); (case k__law_near => k_is)
    (case a__law_colorings => k_is); (case l__law_colorings => k_is); (case c__law_colorings => k_is); (case k__law_colorings => k_is)
    (case a__law_stream => k_is); (case l__law_stream => k_is); (case c__law_stream => k_is); (case k__law_stream => k_is)
    (case a__law_next => k_is); (case l__law_next => k_is); (case c__law_next => k_is); (case k__law_next => k_is)
    (case a__law_pick => k_is); (case l__law_pick => k_is); (case c__law_pick => k_is); (case k__law_pick => k_is)
    (case a__law_grown => k_is); (case l__law_grown => k_is); (case c__law_grown => k_is); (case k__law_grown => k_is)
    (case a__law_crossing => k_is); (case l__law_crossing => k_is); (case c__law_crossing => k_is); (case k__law_crossing => k_is)
    (case a_law => k_is); (case l_law => k_is); (case c_law => k_is); (case k_law => k_is)
