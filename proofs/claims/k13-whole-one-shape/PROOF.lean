import PyProof.Rows.All
import Wide.All
import OpenK.AllK
import Wide.FinOn
import KE.KStateDown
import Lean
import HandS.ForMost
import HandS.Flow
import HandS.Strs
import HandS.Deep
import HandS.DeepEq
import HandS.Conv
import HandS.Style
import HandS.IsInst
import HandS.Zip
import KE.KDictSum
import KE.GoesMore
import HandS.Small
import HandS.TupLe
import HandS.TupAny
import HandS.TupLen
import HandS.DictTup
import HandS.Wide
import HandS.WideMore
import HandS.WideBits
import HandS.More
import HandS.WordsExc
import HandS.Defaults
import HandS.Head0
import HandS.Head1
import HandS.Head2
import HandS.HeadEnd
import HandS.HeadHook1
import HandS.HeadHook2
import PySem.Challenge.RW_quarterfold_k13_whole_one_shape
set_option Elab.async false
set_option linter.all false
set_option maxRecDepth 100000
set_option maxHeartbeats 4000000
/-! The mathematics of the law: rows of numbers, their depths, the order in which rows end, the one telling. No program here. -/
namespace K13
theorem snoc_ind {α : Type} {P : List α → Prop} (h0 : P []) (h1 : ∀ l a, P l → P (l ++ [a])) (l : List α) : P l := by
  have h : ∀ r : List α, P r.reverse := by
    intro r
    induction r with
    | nil => exact h0
    | cons a r ih =>
      rw [List.reverse_cons]
      exact h1 _ _ ih
  have e := h l.reverse
  rw [List.reverse_reverse] at e
  exact e
theorem getD_l {α : Type} {l m : List α} {i : Nat} {d : α} (h : i < l.length) : (l ++ m).getD i d = l.getD i d := by
  rw [List.getD_eq_getElem?_getD, List.getD_eq_getElem?_getD, List.getElem?_append_left h]
theorem getD_r {α : Type} {l m : List α} {i : Nat} {d : α} (h : l.length ≤ i) : (l ++ m).getD i d = m.getD (i - l.length) d := by
  rw [List.getD_eq_getElem?_getD, List.getD_eq_getElem?_getD, List.getElem?_append_right h]
abbrev Row := List Nat
/-- the greatest of a list -/
def mx : List Nat → Nat
  | [] => 0
  | a :: r => max a (mx r)
theorem le_mx : ∀ {l : List Nat} {x : Nat}, x ∈ l → x ≤ mx l
  | a :: r, x, h => by
    show x ≤ max a (mx r)
    rcases List.mem_cons.mp h with rfl | h
    · omega
    · have := le_mx h
      omega
theorem mx_le : ∀ {l : List Nat} {b : Nat}, (∀ x ∈ l, x ≤ b) → mx l ≤ b
  | [], _, _ => Nat.zero_le _
  | a :: r, b, h => by
    show max a (mx r) ≤ b
    have h1 := h a List.mem_cons_self
    have h2 := mx_le (l := r) (b := b) fun x hx => h x (List.mem_cons_of_mem _ hx)
    omega
theorem mx_eq {l : List Nat} {m : Nat} (h1 : m ∈ l) (h2 : ∀ x ∈ l, x ≤ m) : m = mx l := Nat.le_antisymm (le_mx h1) (mx_le h2)
theorem mx_congr {r : Row} {f g : Nat → Nat} (h : ∀ x ∈ r, f x = g x) : mx (r.map f) = mx (r.map g) := by
  have e : r.map f = r.map g := List.map_congr_left h
  rw [e]
/-! ### depths -/
def depStep (D : List Nat) (r : Row) : List Nat := D ++ [mx (r.map fun x => D.getD x 0) + 1]
def depths (R : List Row) : List Nat := R.foldl depStep [0, 0]
def dep (R : List Row) (x : Nat) : Nat := (depths R).getD x 0
theorem depths_snoc (R : List Row) (r : Row) : depths (R ++ [r]) = depths R ++ [mx (r.map (dep R)) + 1] := by
  unfold depths
  rw [List.foldl_append] <;> rfl
theorem depths_len (R : List Row) : (depths R).length = R.length + 2 := by
  refine snoc_ind (P := fun R => (depths R).length = R.length + 2) rfl (fun l a ih => ?_) R
  rw [depths_snoc, List.length_append, List.length_append, ih]
  simp
theorem dep_app (R S : List Row) {x : Nat} (h : x < R.length + 2) : dep (R ++ S) x = dep R x := by
  refine snoc_ind (P := fun S => dep (R ++ S) x = dep R x) (by rw [List.append_nil]) (fun l a ih => ?_) S
  rw [← List.append_assoc, ← ih]
  unfold dep
  rw [depths_snoc, getD_l (by rw [depths_len, List.length_append]; omega)]
theorem dep_small (R : List Row) {x : Nat} (h : x ≤ 1) : dep R x = 0 := by
  have e := dep_app [] R (x := x) (by show x < 0 + 2; omega)
  rw [List.nil_append] at e
  rw [e]
  match x, h with
  | 0, _ => rfl
  | 1, _ => rfl
theorem dep_last (R : List Row) (r : Row) : dep (R ++ [r]) (R.length + 2) = mx (r.map (dep R)) + 1 := by
  unfold dep
  rw [depths_snoc, getD_r (by rw [depths_len]; exact Nat.le_refl _), depths_len, Nat.sub_self]
  rfl
/-- rows of four numbers, each of which stands before -/
def VR (R : List Row) : Prop := ∀ (i : Nat) (r : Row), R[i]? = some r → r.length = 4 ∧ ∀ x ∈ r, x < i + 2
theorem VR.nil : VR [] := fun i r h => by simp at h
theorem VR.snoc {R : List Row} {r : Row} (h : VR R) (hl : r.length = 4) (hx : ∀ x ∈ r, x < R.length + 2) : VR (R ++ [r]) := fun i q hq => by
  rcases Nat.lt_trichotomy i R.length with c | c | c
  · rw [List.getElem?_append_left c] at hq
    exact h i q hq
  · subst c
    rw [List.getElem?_append_right (Nat.le_refl _), Nat.sub_self] at hq
    have e : r = q := Option.some.inj hq
    subst e
    exact ⟨hl, hx⟩
  · rw [List.getElem?_eq_none (by rw [List.length_append]; simp; omega)] at hq
    cases hq
theorem VR.pre {R S : List Row} (h : VR (R ++ S)) : VR R := fun i r hr => h i r (by
  have hi : i < R.length := (List.getElem?_eq_some_iff.mp hr).1
  rw [List.getElem?_append_left hi]
  exact hr)
theorem VR.last {R : List Row} {r : Row} (h : VR (R ++ [r])) : r.length = 4 ∧ ∀ x ∈ r, x < R.length + 2 := h R.length r (by
  rw [List.getElem?_append_right (Nat.le_refl _), Nat.sub_self] <;> rfl)
/-- a number's row -/
def row (R : List Row) (x : Nat) : Row := R.getD (x - 2) []
theorem row_at {R : List Row} {i : Nat} {r : Row} (h : R[i]? = some r) : row R (i + 2) = r := by
  unfold row
  rw [Nat.add_sub_cancel, List.getD_eq_getElem?_getD, h] <;> rfl
theorem row_get {R : List Row} {x : Nat} (h2 : 2 ≤ x) (h : x < R.length + 2) : R[x - 2]? = some (row R x) := by
  unfold row
  have hi : x - 2 < R.length := by omega
  rw [List.getD_eq_getElem?_getD, List.getElem?_eq_getElem hi] <;> rfl
theorem row_app (R S : List Row) {x : Nat} (h2 : 2 ≤ x) (h : x < R.length + 2) : row (R ++ S) x = row R x := by
  have e := row_get h2 h
  have hi : x - 2 < R.length := by omega
  unfold row
  rw [getD_l hi]
theorem row_len {R : List Row} (V : VR R) {x : Nat} (h2 : 2 ≤ x) (h : x < R.length + 2) : (row R x).length = 4 := (V _ _ (row_get h2 h)).1
theorem row_lt {R : List Row} (V : VR R) {x y : Nat} (h2 : 2 ≤ x) (h : x < R.length + 2) (hy : y ∈ row R x) : y < x := by
  have := (V _ _ (row_get h2 h)).2 y hy
  omega
theorem take_split {R : List Row} {i : Nat} {r : Row} (h : R[i]? = some r) : R = R.take i ++ [r] ++ R.drop (i + 1) := by
  obtain ⟨hi, e⟩ := List.getElem?_eq_some_iff.mp h
  rw [List.append_assoc, List.singleton_append, ← e, ← List.drop_eq_getElem_cons hi, List.take_append_drop]
theorem dep_row {R : List Row} (V : VR R) {x : Nat} (h2 : 2 ≤ x) (h : x < R.length + 2) : dep R x = mx ((row R x).map (dep R)) + 1 := by
  have e := row_get h2 h
  have sp := take_split e
  have hi : x - 2 < R.length := by omega
  have hl : (R.take (x - 2)).length = x - 2 := by rw [List.length_take]; omega
  have q : dep R x = dep (R.take (x - 2) ++ [row R x]) x := by
    conv => lhs; rw [sp]
    exact dep_app _ _ (by rw [List.length_append, hl]; simp; omega)
  have q2 := dep_last (R.take (x - 2)) (row R x)
  rw [hl, show x - 2 + 2 = x by omega] at q2
  rw [q, q2]
  congr 1
  refine mx_congr fun y hy => ?_
  have hy2 := row_lt V h2 h hy
  have q3 : dep (R.take (x - 2) ++ R.drop (x - 2)) y = dep (R.take (x - 2)) y := dep_app _ _ (by rw [hl]; omega)
  rw [List.take_append_drop] at q3
  exact q3.symm
theorem dep_child {R : List Row} (V : VR R) {x y : Nat} (h2 : 2 ≤ x) (h : x < R.length + 2) (hy : y ∈ row R x) : dep R y + 1 ≤ dep R x := by
  rw [dep_row V h2 h]
  have := le_mx (List.mem_map_of_mem (f := dep R) hy)
  omega
theorem dep_pos {R : List Row} (V : VR R) {x : Nat} (h2 : 2 ≤ x) (h : x < R.length + 2) : 1 ≤ dep R x := by
  rw [dep_row V h2 h]
  omega
/-! ### a row kept once -/
def Plain (q : Row) : Prop := q = [0, 0, 0, 0] ∨ q = [1, 1, 1, 1]
instance (q : Row) : Decidable (Plain q) := by unfold Plain; exact inferInstance
/-- the rows behind, the number -/
def numberOf (R : List Row) (q : Row) : List Row × Nat := if Plain q then (R, q.headD 0) else if q ∈ R then (R, R.idxOf q + 2) else (R ++ [q], R.length + 2)
structure WF (R : List Row) : Prop where
  v : VR R
  nd : R.Nodup
  np : ∀ r ∈ R, ¬ Plain r
theorem WF.nil : WF [] := ⟨VR.nil, List.nodup_nil, fun _ h => by simp at h⟩
theorem WF.snoc {R : List Row} {q : Row} (w : WF R) (hl : q.length = 4) (hx : ∀ x ∈ q, x < R.length + 2) (hn : q ∉ R) (hp : ¬ Plain q) : WF (R ++ [q]) :=
  ⟨w.v.snoc hl hx, List.nodup_append.mpr ⟨w.nd, by simp, fun a ha b hb e => by
    have e2 : b = q := by simpa using hb
    subst e2
    subst e
    exact hn ha⟩, fun r hr => by
    rcases List.mem_append.mp hr with h | h
    · exact w.np r h
    · have e2 : r = q := by simpa using h
      rw [e2]
      exact hp⟩
theorem plain_head {q : Row} (h : Plain q) : q.headD 0 ≤ 1 ∧ ∀ x ∈ q, x = q.headD 0 := by
  rcases h with rfl | rfl <;> simp
theorem idx_get {R : List Row} {q : Row} (h : q ∈ R) : R[R.idxOf q]? = some q := by
  have hi : R.idxOf q < R.length := List.idxOf_lt_length_of_mem h
  rw [List.getElem?_eq_getElem hi, List.getElem_idxOf]
/-- what numberOf keeps -/
theorem numberOf_ok {R : List Row} {q : Row} (w : WF R) (hl : q.length = 4) (hx : ∀ x ∈ q, x < R.length + 2) :
    WF (numberOf R q).1 ∧ (∃ S, (numberOf R q).1 = R ++ S) ∧ (numberOf R q).2 < (numberOf R q).1.length + 2 ∧ dep (numberOf R q).1 (numberOf R q).2 ≤ mx (q.map (dep R)) + 1 := by
  unfold numberOf
  by_cases hp : Plain q
  · rw [if_pos hp]
    have h1 := (plain_head hp).1
    refine ⟨w, ⟨[], by simp⟩, ?_, ?_⟩
    · show q.headD 0 < R.length + 2
      omega
    · show dep R (q.headD 0) ≤ _
      rw [dep_small R h1]
      omega
  · rw [if_neg hp]
    by_cases hm : q ∈ R
    · rw [if_pos hm]
      have hi : R.idxOf q < R.length := List.idxOf_lt_length_of_mem hm
      refine ⟨w, ⟨[], by simp⟩, ?_, ?_⟩
      · show R.idxOf q + 2 < R.length + 2
        omega
      · show dep R (R.idxOf q + 2) ≤ _
        rw [dep_row w.v (by omega) (by omega), row_at (idx_get hm)]
        exact Nat.le_refl _
    · rw [if_neg hm]
      refine ⟨w.snoc hl hx hm hp, ⟨[q], rfl⟩, ?_, ?_⟩
      · show R.length + 2 < (R ++ [q]).length + 2
        rw [List.length_append]
        simp
      · show dep (R ++ [q]) (R.length + 2) ≤ _
        rw [dep_last]
        exact Nat.le_refl _
theorem numberOf_len (R : List Row) (q : Row) : (numberOf R q).1.length ≤ R.length + 1 := by
  unfold numberOf
  split
  · exact Nat.le_succ _
  · split
    · exact Nat.le_succ _
    · show (R ++ [q]).length ≤ _
      rw [List.length_append] <;> simp
/-! ### the numbers in the order in which rows end -/
def ord (R : List Row) : Nat → Nat → List Nat → List Nat
  | 0, _, F => F
  | d + 1, x, F => if x ≤ 1 ∨ x ∈ F then F else ((row R x).foldl (fun F y => ord R d y F) F) ++ [x]
theorem ord_zero (R : List Row) (x : Nat) (F : List Nat) : ord R 0 x F = F := rfl
theorem ord_succ (R : List Row) (d x : Nat) (F : List Nat) : ord R (d + 1) x F = if x ≤ 1 ∨ x ∈ F then F else ((row R x).foldl (fun F y => ord R d y F) F) ++ [x] := rfl
theorem ord_skip (R : List Row) (d x : Nat) (F : List Nat) (h : x ≤ 1 ∨ x ∈ F) : ord R d x F = F := by
  cases d with
  | zero => rfl
  | succ d => rw [ord_succ, if_pos h]
/-- numbers of rows, none twice, their quarters' numbers among them -/
structure Good (R : List Row) (F : List Nat) : Prop where
  nd : F.Nodup
  rg : ∀ x ∈ F, 2 ≤ x ∧ x < R.length + 2
  cl : ∀ x ∈ F, ∀ y ∈ row R x, y ≤ 1 ∨ y ∈ F
theorem Good.nil (R : List Row) : Good R [] := ⟨List.nodup_nil, fun _ h => by simp at h, fun _ h => by simp at h⟩
/-- what a step of the order keeps -/
structure Ord1 (R : List Row) (b : Nat) (F G : List Nat) : Prop where
  good : Good R G
  ext : ∃ S, G = F ++ S
  up : ∀ z ∈ G, z ∈ F ∨ z ≤ b
theorem Ord1.sub {R : List Row} {b : Nat} {F G : List Nat} (o : Ord1 R b F G) {z : Nat} (h : z ∈ F) : z ∈ G := by
  obtain ⟨S, e⟩ := o.ext
  rw [e]
  exact List.mem_append_left _ h
theorem Ord1.trans {R : List Row} {b : Nat} {F G J : List Nat} (o : Ord1 R b F G) (p : Ord1 R b G J) : Ord1 R b F J :=
  ⟨p.good, by
    obtain ⟨S, e⟩ := o.ext
    obtain ⟨T, e2⟩ := p.ext
    exact ⟨S ++ T, by rw [e2, e, List.append_assoc]⟩, fun z hz => by
    rcases p.up z hz with h | h
    · exact o.up z h
    · exact .inr h⟩
theorem Ord1.mono {R : List Row} {b c : Nat} {F G : List Nat} (o : Ord1 R b F G) (h : b ≤ c) : Ord1 R c F G := ⟨o.good, o.ext, fun z hz => by
  rcases o.up z hz with q | q
  · exact .inl q
  · exact .inr (Nat.le_trans q h)⟩
theorem ord_fold {R : List Row} {d b : Nat} (ih : ∀ (x : Nat) (F : List Nat), x < R.length + 2 → dep R x ≤ d → Good R F → Ord1 R x F (ord R d x F) ∧ (x ≤ 1 ∨ x ∈ ord R d x F)) :
    ∀ (ys : List Nat) (F : List Nat), (∀ y ∈ ys, y < R.length + 2 ∧ dep R y ≤ d ∧ y ≤ b) → Good R F →
      Ord1 R b F (ys.foldl (fun F y => ord R d y F) F) ∧ ∀ y ∈ ys, y ≤ 1 ∨ y ∈ ys.foldl (fun F y => ord R d y F) F
  | [], F, _, g => ⟨⟨g, ⟨[], by simp⟩, fun z hz => .inl hz⟩, fun _ h => by simp at h⟩
  | y :: ys, F, h, g => by
    obtain ⟨h1, h2, h3⟩ := h y List.mem_cons_self
    obtain ⟨o, m⟩ := ih y F h1 h2 g
    obtain ⟨o2, m2⟩ := ord_fold ih ys (ord R d y F) (fun z hz => h z (List.mem_cons_of_mem _ hz)) o.good
    refine ⟨(o.mono h3).trans o2, fun z hz => ?_⟩
    rcases List.mem_cons.mp hz with rfl | hz
    · rcases m with m | m
      · exact .inl m
      · exact .inr (o2.sub m)
    · exact m2 z hz
theorem ord_ok {R : List Row} (V : VR R) : ∀ (d x : Nat) (F : List Nat), x < R.length + 2 → dep R x ≤ d → Good R F → Ord1 R x F (ord R d x F) ∧ (x ≤ 1 ∨ x ∈ ord R d x F)
  | 0, x, F, hx, hd, g => by
    refine ⟨⟨g, ⟨[], by rw [ord_zero]; simp⟩, fun z hz => .inl hz⟩, .inl ?_⟩
    rcases Nat.lt_or_ge x 2 with c | c
    · omega
    · have := dep_pos V c hx
      omega
  | d + 1, x, F, hx, hd, g => by
    by_cases hs : x ≤ 1 ∨ x ∈ F
    · rw [ord_skip R _ x F hs]
      exact ⟨⟨g, ⟨[], by simp⟩, fun z hz => .inl hz⟩, hs⟩
    · rw [ord_succ, if_neg hs]
      have h2 : 2 ≤ x := by
        have := fun q => hs (.inl q)
        omega
      have hch : ∀ y ∈ row R x, y < R.length + 2 ∧ dep R y ≤ d ∧ y ≤ x - 1 := fun y hy => by
        have h3 := row_lt V h2 hx hy
        have h4 := dep_child V h2 hx hy
        exact ⟨by omega, by omega, by omega⟩
      obtain ⟨o, m⟩ := ord_fold (b := x - 1) (fun x F => ord_ok V d x F) (row R x) F hch g
      have hn : x ∉ (row R x).foldl (fun F y => ord R d y F) F := fun q => by
        rcases o.up x q with z | z
        · exact hs (.inr z)
        · omega
      refine ⟨⟨⟨?_, ?_, ?_⟩, ?_, ?_⟩, .inr (by simp)⟩
      · refine List.nodup_append.mpr ⟨o.good.nd, by simp, fun a ha b hb e => ?_⟩
        have e2 : b = x := by simpa using hb
        rw [e, e2] at ha
        exact hn ha
      · intro z hz
        rcases List.mem_append.mp hz with q | q
        · exact o.good.rg z q
        · have e2 : z = x := by simpa using q
          rw [e2]
          exact ⟨h2, hx⟩
      · intro z hz y hy
        rcases List.mem_append.mp hz with q | q
        · rcases o.good.cl z q y hy with u | u
          · exact .inl u
          · exact .inr (List.mem_append_left _ u)
        · have e2 : z = x := by simpa using q
          rw [e2] at hy
          rcases m y hy with u | u
          · exact .inl u
          · exact .inr (List.mem_append_left _ u)
      · obtain ⟨S, e⟩ := o.ext
        exact ⟨S ++ [x], by rw [e, List.append_assoc]⟩
      · intro z hz
        rcases List.mem_append.mp hz with q | q
        · rcases o.up z q with u | u
          · exact .inl u
          · exact .inr (by omega)
        · exact .inr (by simp at q; omega)
/-- few numbers -/
theorem nodup_len : ∀ (n : Nat) (F : List Nat), F.Nodup → (∀ x ∈ F, x < n) → F.length ≤ n
  | 0, F, _, h => by
    cases F with
    | nil => exact Nat.le_refl _
    | cons a r => exact absurd (h a List.mem_cons_self) (Nat.not_lt_zero _)
  | n + 1, F, nd, h => by
    by_cases hm : n ∈ F
    · have h1 := nodup_len n (F.erase n) (nd.erase n) (fun x hx => by
        have h2 := h x (List.mem_of_mem_erase hx)
        have h3 : x ≠ n := fun e => by
          rw [e] at hx
          exact (List.Nodup.not_mem_erase nd) hx
        omega)
      have h4 := List.length_erase_of_mem hm
      omega
    · have h1 := nodup_len n F nd (fun x hx => by
        have h2 := h x hx
        have h3 : x ≠ n := fun e => hm (e ▸ hx)
        omega)
      omega
theorem Good.len {R : List Row} {F : List Nat} (g : Good R F) : F.length ≤ R.length := by
  have h := nodup_len R.length (F.map fun x => x - 2) (by
    refine List.Pairwise.map _ ?_ (List.Pairwise.imp_of_mem (S := fun a b => 2 ≤ a ∧ 2 ≤ b ∧ a ≠ b) (fun {a b} ha hb hne => ⟨(g.rg a ha).1, (g.rg b hb).1, hne⟩) g.nd)
    intro a b ⟨h1, h2, h3⟩ e
    omega) (fun x hx => by
    obtain ⟨y, hy, e⟩ := List.mem_map.mp hx
    have := g.rg y hy
    omega)
  rw [List.length_map] at h
  exact h
/-! ### what the law's own reckoning makes -/
inductive Num : Nat → List Row → List Row → Nat → Prop where
  | leaf (k : Nat) (R : List Row) (x : Nat) (h : x ≤ 1) : Num k R R x
  | node (k : Nat) (R0 R1 R2 R3 R4 : List Row) (a b c d : Nat) (h1 : Num k R0 R1 a) (h2 : Num k R1 R2 b) (h3 : Num k R2 R3 c) (h4 : Num k R3 R4 d) :
      Num (k + 1) R0 (numberOf R4 [a, b, c, d]).1 (numberOf R4 [a, b, c, d]).2
def seg (R : List Row) : List Nat := (List.range R.length).map fun i => i + 2
theorem seg_snoc (R : List Row) (q : Row) : seg (R ++ [q]) = seg R ++ [R.length + 2] := by
  unfold seg
  rw [List.length_append, List.length_singleton, List.range_succ, List.map_append] <;> rfl
theorem mem_seg {R : List Row} {x : Nat} : x ∈ seg R ↔ 2 ≤ x ∧ x < R.length + 2 := by
  unfold seg
  rw [List.mem_map]
  constructor
  · rintro ⟨i, hi, rfl⟩
    have := List.mem_range.mp hi
    omega
  · rintro ⟨h1, h2⟩
    exact ⟨x - 2, List.mem_range.mpr (by omega), by omega⟩
/-- what it keeps -/
structure NumOk (k : Nat) (R R' : List Row) (x : Nat) : Prop where
  wf : WF R'
  ext : ∃ S, R' = R ++ S
  lt : x < R'.length + 2
  dp : dep R' x ≤ k
  last : R' = R ∨ (x = R'.length + 1 ∧ R.length < R'.length)
  few : 3 * R'.length + 1 ≤ 3 * R.length + 4 ^ k
  ord : ∀ (d : Nat) (T : List Row), k ≤ d → ord (R' ++ T) d x (seg R) = seg R'
theorem NumOk.le {k : Nat} {R R' : List Row} {x : Nat} (o : NumOk k R R' x) : R.length ≤ R'.length := by
  obtain ⟨S, e⟩ := o.ext
  rw [e, List.length_append]
  omega
theorem four_pow (k : Nat) : 1 ≤ 4 ^ k := Nat.one_le_pow _ _ (by decide)
theorem num_ok {k : Nat} {R R' : List Row} {x : Nat} (n : Num k R R' x) : WF R → NumOk k R R' x := by
  induction n with
  | leaf k R x h =>
    intro w
    refine ⟨w, ⟨[], by simp⟩, by omega, ?_, .inl rfl, ?_, fun d T _ => ord_skip _ _ _ _ (.inl h)⟩
    · rw [dep_small R h]
      omega
    · have := four_pow k
      omega
  | node k R0 R1 R2 R3 R4 a b c d h1 h2 h3 h4 i1 i2 i3 i4 =>
    intro w
    have o1 := i1 w
    have o2 := i2 o1.wf
    have o3 := i3 o2.wf
    have o4 := i4 o3.wf
    have l1 := o1.le
    have l2 := o2.le
    have l3 := o3.le
    have l4 := o4.le
    obtain ⟨S1, e1⟩ := o1.ext
    obtain ⟨S2, e2⟩ := o2.ext
    obtain ⟨S3, e3⟩ := o3.ext
    obtain ⟨S4, e4⟩ := o4.ext
    have t1 := o1.lt
    have t2 := o2.lt
    have t3 := o3.lt
    have t4 := o4.lt
    have hx : ∀ y ∈ [a, b, c, d], y < R4.length + 2 := fun y hy => by
      simp only [List.mem_cons, List.not_mem_nil, or_false] at hy
      rcases hy with rfl | rfl | rfl | rfl <;> omega
    have f1 : R4 = R1 ++ (S2 ++ S3 ++ S4) := by rw [e4, e3, e2] <;> simp
    have f2 : R4 = R2 ++ (S3 ++ S4) := by rw [e4, e3] <;> simp
    have da : dep R4 a ≤ k := by
      rw [f1, dep_app _ _ t1]
      exact o1.dp
    have db : dep R4 b ≤ k := by
      rw [f2, dep_app _ _ t2]
      exact o2.dp
    have dc : dep R4 c ≤ k := by
      rw [e4, dep_app _ _ t3]
      exact o3.dp
    have hd : mx ([a, b, c, d].map (dep R4)) ≤ k := mx_le fun y hy => by
      obtain ⟨z, hz, e⟩ := List.mem_map.mp hy
      simp only [List.mem_cons, List.not_mem_nil, or_false] at hz
      have dd := o4.dp
      rcases hz with rfl | rfl | rfl | rfl <;> omega
    obtain ⟨w', ⟨S, e⟩, lt', dp'⟩ := numberOf_ok (q := [a, b, c, d]) o4.wf rfl hx
    have p1 := o1.few
    have p2 := o2.few
    have p3 := o3.few
    have p4 := o4.few
    have hp : 4 ^ (k + 1) = 4 * 4 ^ k := by rw [Nat.pow_succ, Nat.mul_comm]
    have fk := four_pow k
    by_cases hpl : Plain [a, b, c, d]
    · -- four times the same plain number: nothing was kept
      have sm : ∀ y ∈ [a, b, c, d], y ≤ 1 := fun y hy => by
        rw [(plain_head hpl).2 y hy]
        exact (plain_head hpl).1
      have g1 := sm a (by simp)
      have g2 := sm b (by simp)
      have g3 := sm c (by simp)
      have g4 := sm d (by simp)
      have q1 : R1 = R0 := o1.last.resolve_right (fun z => by omega)
      have q2 : R2 = R1 := o2.last.resolve_right (fun z => by omega)
      have q3 : R3 = R2 := o3.last.resolve_right (fun z => by omega)
      have q4 : R4 = R3 := o4.last.resolve_right (fun z => by omega)
      have hR : R4 = R0 := by rw [q4, q3, q2, q1]
      have en : numberOf R4 [a, b, c, d] = (R4, a) := by
        unfold numberOf
        rw [if_pos hpl] <;> rfl
      rw [en] at w' lt' dp' ⊢
      refine ⟨w', ⟨[], by rw [hR]; simp⟩, lt', Nat.le_trans dp' (by omega), .inl hR, ?_, fun d' T _ => ?_⟩
      · rw [hR]
        show 3 * R0.length + 1 ≤ _
        omega
      · rw [ord_skip _ _ _ _ (.inl g1), hR]
    · by_cases hm : [a, b, c, d] ∈ R4
      · -- the row is there: nothing was kept
        have en : numberOf R4 [a, b, c, d] = (R4, R4.idxOf [a, b, c, d] + 2) := by
          unfold numberOf
          rw [if_neg hpl, if_pos hm]
        have hi : R4.idxOf [a, b, c, d] < R4.length := List.idxOf_lt_length_of_mem hm
        have hlt := (o4.wf.v _ _ (idx_get hm)).2
        have g1 := hlt a (by simp)
        have g2 := hlt b (by simp)
        have g3 := hlt c (by simp)
        have g4 := hlt d (by simp)
        have q4 : R4 = R3 := o4.last.resolve_right (fun z => by omega)
        have m4 : R4.length = R3.length := by rw [q4]
        have q3 : R3 = R2 := o3.last.resolve_right (fun z => by omega)
        have m3 : R3.length = R2.length := by rw [q3]
        have q2 : R2 = R1 := o2.last.resolve_right (fun z => by omega)
        have m2 : R2.length = R1.length := by rw [q2]
        have q1 : R1 = R0 := o1.last.resolve_right (fun z => by omega)
        have hR : R4 = R0 := by rw [q4, q3, q2, q1]
        rw [en] at w' lt' dp' ⊢
        refine ⟨w', ⟨[], by rw [hR]; simp⟩, lt', Nat.le_trans dp' (by omega), .inl hR, ?_, fun d' T _ => ?_⟩
        · rw [hR]
          show 3 * R0.length + 1 ≤ _
          omega
        · show ord (R4 ++ T) d' (R4.idxOf [a, b, c, d] + 2) (seg R0) = seg R4
          rw [← hR, ord_skip _ _ _ _ (.inr (mem_seg.mpr ⟨by omega, by omega⟩))]
      · have en : numberOf R4 [a, b, c, d] = (R4 ++ [[a, b, c, d]], R4.length + 2) := by
          unfold numberOf
          rw [if_neg hpl, if_neg hm]
        rw [en] at w' lt' dp' ⊢
        have ll : (R4 ++ [[a, b, c, d]]).length = R4.length + 1 := by simp
        refine ⟨w', ⟨S1 ++ S2 ++ S3 ++ S4 ++ [[a, b, c, d]], by rw [f1, e1]; simp⟩, lt', Nat.le_trans dp' (by omega), .inr ⟨by show R4.length + 2 = (R4 ++ [[a, b, c, d]]).length + 1; omega, by show R0.length < (R4 ++ [[a, b, c, d]]).length; omega⟩, ?_, fun d' T hk => ?_⟩
        · show 3 * (R4 ++ [[a, b, c, d]]).length + 1 ≤ _
          omega
        · show ord (R4 ++ [[a, b, c, d]] ++ T) d' (R4.length + 2) (seg R0) = seg (R4 ++ [[a, b, c, d]])
          obtain ⟨d', rfl⟩ : ∃ z, d' = z + 1 := ⟨d' - 1, by omega⟩
          have hns : ¬ (R4.length + 2 ≤ 1 ∨ R4.length + 2 ∈ seg R0) := fun z => by
            rcases z with z | z
            · omega
            · have := (mem_seg.mp z).2
              omega
          rw [ord_succ, if_neg hns]
          have er : row (R4 ++ [[a, b, c, d]] ++ T) (R4.length + 2) = [a, b, c, d] := row_at (by
            rw [List.append_assoc, List.getElem?_append_right (Nat.le_refl _), Nat.sub_self] <;> rfl)
          rw [er, seg_snoc]
          congr 1
          show ord _ d' d (ord _ d' c (ord _ d' b (ord _ d' a (seg R0)))) = seg R4
          have c1 := o1.ord d' (S2 ++ S3 ++ S4 ++ [[a, b, c, d]] ++ T) (by omega)
          have c2 := o2.ord d' (S3 ++ S4 ++ [[a, b, c, d]] ++ T) (by omega)
          have c3 := o3.ord d' (S4 ++ [[a, b, c, d]] ++ T) (by omega)
          have c4 := o4.ord d' ([[a, b, c, d]] ++ T) (by omega)
          rw [show R1 ++ (S2 ++ S3 ++ S4 ++ [[a, b, c, d]] ++ T) = R4 ++ [[a, b, c, d]] ++ T by rw [f1]; simp] at c1
          rw [show R2 ++ (S3 ++ S4 ++ [[a, b, c, d]] ++ T) = R4 ++ [[a, b, c, d]] ++ T by rw [f2]; simp] at c2
          rw [show R3 ++ (S4 ++ [[a, b, c, d]] ++ T) = R4 ++ [[a, b, c, d]] ++ T by rw [e4]; simp] at c3
          rw [show R4 ++ ([[a, b, c, d]] ++ T) = R4 ++ [[a, b, c, d]] ++ T by simp] at c4
          rw [c1, c2, c3, c4]
/-- a telling's rows and top that are a shape's -/
structure Canon (top : Nat) (R : List Row) : Prop where
  wf : WF R
  lt : top < R.length + 2
  end_ : (R = [] ∧ top ≤ 1) ∨ (R ≠ [] ∧ top = R.length + 1)
  ord : ord R 12 top [] = seg R
theorem canon_of {k top : Nat} {R : List Row} (h : Num k [] R top) (hk : k ≤ 12) : Canon top R ∧ dep R top ≤ k ∧ R.length ≤ 5592405 := by
  have o := num_ok h WF.nil
  refine ⟨⟨o.wf, o.lt, ?_, ?_⟩, o.dp, ?_⟩
  · have hl := o.lt
    rcases o.last with e | ⟨e, l⟩
    · subst e
      exact .inl ⟨rfl, by simp at hl; omega⟩
    · exact .inr ⟨fun z => by rw [z] at l; exact absurd l (by simp), e⟩
  · have q := o.ord 12 [] hk
    rw [List.append_nil] at q
    exact q
  · have f := o.few
    have p : 4 ^ k ≤ 4 ^ 12 := Nat.pow_le_pow_right (by decide) hk
    have e : (4 : Nat) ^ 12 = 16777216 := by decide
    have z : ([] : List Row).length = 0 := rfl
    omega
/-! ### the rows of a telling kept once -/
def takeStep (s : List Row × List Nat) (r : Row) : List Row × List Nat :=
  ((numberOf s.1 (r.map fun x => s.2.getD x 0)).1, s.2 ++ [(numberOf s.1 (r.map fun x => s.2.getD x 0)).2])
def takeR (rows : List Row) : List Row × List Nat := rows.foldl takeStep ([], [0, 1])
theorem takeR_snoc (l : List Row) (r : Row) : takeR (l ++ [r]) = takeStep (takeR l) r := by
  unfold takeR
  rw [List.foldl_append] <;> rfl
def nm (s : List Row × List Nat) (x : Nat) : Nat := s.2.getD x 0
structure TakeOk (rows : List Row) (s : List Row × List Nat) : Prop where
  wf : WF s.1
  len : s.2.length = rows.length + 2
  z : nm s 0 = 0
  o : nm s 1 = 1
  lt : ∀ x, x < rows.length + 2 → nm s x < s.1.length + 2
  dp : ∀ x, x < rows.length + 2 → dep s.1 (nm s x) ≤ dep rows x
  few : s.1.length ≤ rows.length
  mem : ∀ r ∈ rows, Plain (r.map (nm s)) ∨ r.map (nm s) ∈ s.1
  less : (∃ r ∈ rows, Plain r) ∨ ¬ rows.Nodup → s.1.length < rows.length
  id_ : WF rows → s.1 = rows ∧ ∀ x, x < rows.length + 2 → nm s x = x
theorem nm_snoc {R : List Row} {h : List Nat} {v x : Nat} (hx : x < h.length) (R' : List Row) : nm (R', h ++ [v]) x = nm (R, h) x := by
  unfold nm
  exact getD_l hx
theorem nm_last {R : List Row} {h : List Nat} {v : Nat} : nm (R, h ++ [v]) h.length = v := by
  unfold nm
  show (h ++ [v]).getD h.length 0 = v
  rw [getD_r (Nat.le_refl _), Nat.sub_self]
  rfl
theorem plain_map {s : List Row × List Nat} (z : nm s 0 = 0) (o : nm s 1 = 1) {r : Row} (h : Plain r) : r.map (nm s) = r := by
  rcases h with rfl | rfl
  · show [nm s 0, nm s 0, nm s 0, nm s 0] = _
    rw [z]
  · show [nm s 1, nm s 1, nm s 1, nm s 1] = _
    rw [o]
theorem take_ok : ∀ rows : List Row, VR rows → TakeOk rows (takeR rows) := by
  refine snoc_ind ?_ ?_
  · intro _
    refine ⟨WF.nil, rfl, rfl, rfl, fun x hx => ?_, fun x hx => ?_, Nat.le_refl _, fun r h => by simp at h, fun h => ?_, fun _ => ⟨rfl, fun x hx => ?_⟩⟩
    · match x, hx with
      | 0, _ => decide
      | 1, _ => decide
    · match x, hx with
      | 0, _ => decide
      | 1, _ => decide
    · rcases h with ⟨r, h, _⟩ | h
      · simp at h
      · exact absurd List.nodup_nil h
    · match x, hx with
      | 0, _ => rfl
      | 1, _ => rfl
  · intro l r ih V
    have t := ih V.pre
    obtain ⟨hl, hx⟩ := V.last
    rw [takeR_snoc]
    generalize takeR l = s at t ⊢
    obtain ⟨R, h⟩ := s
    have hlen : h.length = l.length + 2 := t.len
    have eq : (r.map fun x => h.getD x 0) = r.map (nm (R, h)) := rfl
    unfold takeStep
    show TakeOk (l ++ [r]) ((numberOf R (r.map (nm (R, h)))).1, h ++ [(numberOf R (r.map (nm (R, h)))).2])
    have hq : ∀ y ∈ r.map (nm (R, h)), y < R.length + 2 := fun y hy => by
      obtain ⟨x, hx1, rfl⟩ := List.mem_map.mp hy
      exact t.lt x (hx x hx1)
    obtain ⟨w', ⟨S, e⟩, lt', dp'⟩ := numberOf_ok (q := r.map (nm (R, h))) t.wf (by rw [List.length_map]; exact hl) hq
    have ln := numberOf_len R (r.map (nm (R, h)))
    have old : ∀ x, x < l.length + 2 → nm ((numberOf R (r.map (nm (R, h)))).1, h ++ [(numberOf R (r.map (nm (R, h)))).2]) x = nm (R, h) x := fun x hx => nm_snoc (by omega) _
    have new : nm ((numberOf R (r.map (nm (R, h)))).1, h ++ [(numberOf R (r.map (nm (R, h)))).2]) (l.length + 2) = (numberOf R (r.map (nm (R, h)))).2 := by
      rw [← hlen]
      exact nm_last
    have mold : ∀ q : Row, (∀ x ∈ q, x < l.length + 2) → q.map (nm ((numberOf R (r.map (nm (R, h)))).1, h ++ [(numberOf R (r.map (nm (R, h)))).2])) = q.map (nm (R, h)) := fun q hq => List.map_congr_left fun x hx => old x (hq x hx)
    have hin : Plain (r.map (nm (R, h))) ∨ r.map (nm (R, h)) ∈ (numberOf R (r.map (nm (R, h)))).1 := by
      unfold numberOf
      by_cases hp : Plain (r.map (nm (R, h)))
      · exact .inl hp
      · rw [if_neg hp]
        by_cases hm : r.map (nm (R, h)) ∈ R
        · rw [if_pos hm]
          exact .inr hm
        · rw [if_neg hm]
          exact .inr (by simp)
    refine ⟨w', by rw [List.length_append, List.length_append, hlen]; simp, ?_, ?_, fun x hx1 => ?_, fun x hx1 => ?_, ?_, fun q hq1 => ?_, fun hb => ?_, fun wf => ?_⟩
    · rw [old 0 (by omega)]
      exact t.z
    · rw [old 1 (by omega)]
      exact t.o
    · rw [List.length_append, List.length_singleton] at hx1
      by_cases c : x = l.length + 2
      · rw [c, new]
        exact lt'
      · rw [old x (by omega)]
        have := t.lt x (by omega)
        show nm (R, h) x < (numberOf R (r.map (nm (R, h)))).1.length + 2
        rw [e, List.length_append]
        have h3 : nm (R, h) x < R.length + 2 := this
        omega
    · rw [List.length_append, List.length_singleton] at hx1
      by_cases c : x = l.length + 2
      · rw [c, new, dep_last]
        show dep (numberOf R (r.map (nm (R, h)))).1 (numberOf R (r.map (nm (R, h)))).2 ≤ _
        refine Nat.le_trans dp' (Nat.succ_le_succ (mx_le fun y hy => ?_))
        obtain ⟨z, hz, rfl⟩ := List.mem_map.mp hy
        obtain ⟨u, hu, rfl⟩ := List.mem_map.mp hz
        exact Nat.le_trans (t.dp u (hx u hu)) (le_mx (List.mem_map_of_mem (f := dep l) hu))
      · rw [old x (by omega), dep_app l [r] (by omega)]
        have h3 : nm (R, h) x < R.length + 2 := t.lt x (by omega)
        show dep (numberOf R (r.map (nm (R, h)))).1 (nm (R, h) x) ≤ _
        rw [e, dep_app R S h3]
        exact t.dp x (by omega)
    · have f : R.length ≤ l.length := t.few
      rw [List.length_append, List.length_singleton]
      show (numberOf R (r.map (nm (R, h)))).1.length ≤ _
      omega
    · rcases List.mem_append.mp hq1 with hq1 | hq1
      · obtain ⟨i, hi⟩ := List.getElem?_of_mem hq1
        have hv := V.pre i q hi
        have hil : i < l.length := (List.getElem?_eq_some_iff.mp hi).1
        rw [mold q fun x hx => by have := hv.2 x hx; omega]
        rcases t.mem q hq1 with z | z
        · exact .inl z
        · refine .inr ?_
          show _ ∈ (numberOf R (r.map (nm (R, h)))).1
          rw [e]
          exact List.mem_append_left _ z
      · have e2 : q = r := by simpa using hq1
        rw [e2, mold r hx]
        exact hin
    · have f : R.length ≤ l.length := t.few
      rw [List.length_append, List.length_singleton]
      show (numberOf R (r.map (nm (R, h)))).1.length < _
      -- is the last row the one that goes, or one before?
      by_cases hb2 : (∃ q ∈ l, Plain q) ∨ ¬ l.Nodup
      · have h3 : R.length < l.length := t.less hb2
        omega
      · have hpl : ∀ q ∈ l, ¬ Plain q := fun q hq hp => hb2 (.inl ⟨q, hq, hp⟩)
        have hnd : l.Nodup := Classical.not_not.mp fun z => hb2 (.inr z)
        have hstay : (numberOf R (r.map (nm (R, h)))).1 = R := by
          have hpm : Plain (r.map (nm (R, h))) ∨ r.map (nm (R, h)) ∈ R := by
            rcases hb with ⟨q, hq, hp⟩ | hb
            · rcases List.mem_append.mp hq with hq | hq
              · exact absurd hp (hpl q hq)
              · have e2 : q = r := by simpa using hq
                rw [e2] at hp
                left
                rw [plain_map t.z t.o hp]
                exact hp
            · have hm : r ∈ l := Classical.not_not.mp fun z => hb (List.nodup_append.mpr ⟨hnd, by simp, fun a ha b hb e => by
                have e2 : b = r := by simpa using hb
                rw [e, e2] at ha
                exact z ha⟩)
              exact t.mem r hm
          unfold numberOf
          rcases hpm with hp | hm
          · rw [if_pos hp]
          · by_cases hp : Plain (r.map (nm (R, h)))
            · rw [if_pos hp]
            · rw [if_neg hp, if_pos hm]
        rw [hstay]
        omega
    · have wl : WF l := ⟨V.pre, (List.nodup_append.mp wf.nd).1, fun q hq => wf.np q (List.mem_append_left _ hq)⟩
      obtain ⟨eR, ei⟩ := t.id_ wl
      have eR : R = l := eR
      have em : r.map (nm (R, h)) = r := by
        conv => rhs; rw [← List.map_id r]
        exact List.map_congr_left fun x hx1 => ei x (hx x hx1)
      have hnp : ¬ Plain r := wf.np r (by simp)
      have hnm : r ∉ l := fun hm => (List.nodup_append.mp wf.nd).2.2 r hm r (by simp) rfl
      have en : numberOf R (r.map (nm (R, h))) = (l ++ [r], l.length + 2) := by
        rw [em, eR]
        unfold numberOf
        rw [if_neg hnp, if_neg hnm]
      refine ⟨by rw [en], fun x hx1 => ?_⟩
      rw [List.length_append, List.length_singleton] at hx1
      by_cases c : x = l.length + 2
      · rw [c, new, en]
      · rw [old x (by omega)]
        exact ei x (by omega)
/-! ### the one telling -/
def newOf (F : List Nat) (x : Nat) : Nat := if x ≤ 1 then x else F.idxOf x + 2
def shapeOf (R : List Row) (top : Nat) : Nat × List Row :=
  (newOf (ord R 12 top []) top, (ord R 12 top []).map fun x => (row R x).map (newOf (ord R 12 top [])))
def oneOf (top : Nat) (rows : List Row) : Nat × List Row := shapeOf (takeR rows).1 (nm (takeR rows) top)
theorem seg_get (R : List Row) (i : Nat) (h : i < R.length) : (seg R)[i]? = some (i + 2) := by
  unfold seg
  rw [List.getElem?_map, List.getElem?_range h] <;> rfl
theorem seg_len (R : List Row) : (seg R).length = R.length := by
  unfold seg
  rw [List.length_map, List.length_range]
theorem seg_nodup (R : List Row) : (seg R).Nodup := by
  unfold seg
  exact List.Pairwise.map _ (fun a b h e => h (by omega)) List.nodup_range
theorem idx_nodup {F : List Nat} (nd : F.Nodup) {i x : Nat} (h : F[i]? = some x) : F.idxOf x = i := by
  obtain ⟨hi, e⟩ := List.getElem?_eq_some_iff.mp h
  have hm : x ∈ F := List.mem_of_getElem? h
  have h2 : F.idxOf x < F.length := List.idxOf_lt_length_of_mem hm
  have h3 : F[F.idxOf x] = x := List.getElem_idxOf h2
  exact (List.getElem_inj nd).mp (h3.trans e.symm)
theorem shapeOf_seg {R : List Row} {top : Nat} (V : VR R) (ht : top < R.length + 2) (ho : ord R 12 top [] = seg R) : shapeOf R top = (top, R) := by
  have hn : ∀ x, x < R.length + 2 → newOf (seg R) x = x := fun x hx => by
    unfold newOf
    by_cases c : x ≤ 1
    · rw [if_pos c]
    · rw [if_neg c, idx_nodup (seg_nodup R) (i := x - 2) (by rw [seg_get R _ (by omega)]; congr 1; omega)]
      omega
  unfold shapeOf
  rw [ho, hn top ht]
  congr 1
  refine List.ext_getElem? fun i => ?_
  rw [List.getElem?_map]
  by_cases c : i < R.length
  · rw [seg_get R i c]
    have hg : R[i]? = some R[i] := List.getElem?_eq_getElem c
    show some ((row R (i + 2)).map (newOf (seg R))) = R[i]?
    rw [row_at hg, hg]
    congr 1
    conv => rhs; rw [← List.map_id R[i]]
    exact List.map_congr_left fun x hx => hn x (by have := (V i _ hg).2 x hx; omega)
  · rw [List.getElem?_eq_none (by rw [seg_len]; omega), List.getElem?_eq_none (by omega)] <;> rfl
theorem one_canon {top : Nat} {R : List Row} (c : Canon top R) : oneOf top R = (top, R) := by
  obtain ⟨e1, e2⟩ := (take_ok R c.wf.v).id_ c.wf
  unfold oneOf
  rw [e1, e2 top c.lt]
  exact shapeOf_seg c.wf.v c.lt c.ord
/-- what is told of the one telling of any telling whose top lies within 12 -/
theorem one_is {top : Nat} {rows : List Row} (V : VR rows) (ht : top < rows.length + 2) (hd : dep rows top ≤ 12) :
    Good (takeR rows).1 (ord (takeR rows).1 12 (nm (takeR rows) top) []) ∧ (nm (takeR rows) top ≤ 1 ∨ nm (takeR rows) top ∈ ord (takeR rows).1 12 (nm (takeR rows) top) []) ∧ (ord (takeR rows).1 12 (nm (takeR rows) top) []).length ≤ rows.length := by
  have t := take_ok rows V
  obtain ⟨o, m⟩ := ord_ok t.wf.v 12 (nm (takeR rows) top) [] (t.lt top ht) (Nat.le_trans (t.dp top ht) hd) (Good.nil _)
  exact ⟨o.good, m, Nat.le_trans o.good.len t.few⟩
theorem ord_last (R : List Row) (d x : Nat) (h : 2 ≤ x) : ∃ F, ord R (d + 1) x [] = F ++ [x] := by
  rw [ord_succ, if_neg (by simp; omega)]
  exact ⟨_, rfl⟩
theorem one_end {top : Nat} {rows : List Row} (V : VR rows) (ht : top < rows.length + 2) (hd : dep rows top ≤ 12) :
    (oneOf top rows).2.length ≤ (takeR rows).1.length ∧ ((oneOf top rows).2 = [] ∨ (oneOf top rows).1 = (oneOf top rows).2.length + 1) := by
  obtain ⟨g, m, l⟩ := one_is V ht hd
  unfold oneOf shapeOf
  refine ⟨?_, ?_⟩
  · show ((ord _ 12 _ []).map _).length ≤ _
    rw [List.length_map]
    exact g.len
  · generalize nm (takeR rows) top = x at g m l ⊢
    generalize (takeR rows).1 = R at g m l ⊢
    show (ord R 12 x []).map _ = [] ∨ newOf (ord R 12 x []) x = ((ord R 12 x []).map _).length + 1
    by_cases c : x ≤ 1
    · left
      rw [ord_skip _ _ _ _ (.inl c)] <;> rfl
    · right
      obtain ⟨F, e⟩ := ord_last R 11 x (by omega)
      have e : ord R 12 x [] = F ++ [x] := e
      have nd := g.nd
      rw [e] at nd ⊢
      rw [List.length_map, List.length_append, List.length_singleton]
      unfold newOf
      rw [if_neg c, idx_nodup nd (i := F.length) (by rw [List.getElem?_append_right (Nat.le_refl _), Nat.sub_self] <;> rfl)]
theorem not_one_bad {top : Nat} {rows : List Row} (V : VR rows) (ht : top < rows.length + 2) (hd : dep rows top ≤ 12) (hb : (∃ r ∈ rows, Plain r) ∨ ¬ rows.Nodup) : oneOf top rows ≠ (top, rows) := fun e => by
  have h1 := (one_end V ht hd).1
  rw [e] at h1
  have h2 := (take_ok rows V).less hb
  have h3 : rows.length ≤ (takeR rows).1.length := h1
  omega
theorem not_one_top {top : Nat} {rows : List Row} (V : VR rows) (ht : top < rows.length + 1) (hd : dep rows top ≤ 12) (hne : rows ≠ []) : oneOf top rows ≠ (top, rows) := fun e => by
  have h1 := (one_end V (by omega) hd).2
  rw [e] at h1
  rcases h1 with h1 | h1
  · exact hne h1
  · have h1 : top = rows.length + 1 := h1
    omega
/-! ### tellings that are none of a shape's -/
structure Odd (top : Nat) (R : List Row) : Prop where
  v : VR R
  lt : top < R.length + 2
  few : R.length ≤ 5592406
  no : dep R top ≤ 12 → oneOf top R ≠ (top, R)
theorem nodup_get {R : List Row} (nd : R.Nodup) {i j : Nat} {q : Row} (h1 : R[i]? = some q) (h2 : R[j]? = some q) : i = j := by
  obtain ⟨a, e1⟩ := List.getElem?_eq_some_iff.mp h1
  obtain ⟨b, e2⟩ := List.getElem?_eq_some_iff.mp h2
  exact (List.getElem_inj nd).mp (e1.trans e2.symm)
theorem odd_plain {top : Nat} {R : List Row} (V : VR R) (ht : top < R.length + 2) (hf : R.length ≤ 5592406) {i : Nat} {q : Row} (h : R[i]? = some q) (hp : Plain q) : Odd top R :=
  ⟨V, ht, hf, fun hd => not_one_bad V ht hd (.inl ⟨q, List.mem_of_getElem? h, hp⟩)⟩
theorem odd_twice {top : Nat} {R : List Row} (V : VR R) (ht : top < R.length + 2) (hf : R.length ≤ 5592406) {i j : Nat} {q : Row} (h1 : R[i]? = some q) (h2 : R[j]? = some q) (hij : i ≠ j) : Odd top R :=
  ⟨V, ht, hf, fun hd => not_one_bad V ht hd (.inr fun nd => hij (nodup_get nd h1 h2))⟩
/-! a row put in -/
def sh (a x : Nat) : Nat := if x > a + 1 then x + 1 else x
def putRows (R : List Row) (a : Nat) (q : Row) : List Row := R.take a ++ [q] ++ (R.drop a).map fun r => r.map (sh a)
theorem putRows_len {R : List Row} {a : Nat} (h : a ≤ R.length) (q : Row) : (putRows R a q).length = R.length + 1 := by
  unfold putRows
  rw [List.length_append, List.length_append, List.length_take, List.length_map, List.length_drop, List.length_singleton]
  omega
theorem putRows_lt {R : List Row} {a i : Nat} (h : a ≤ R.length) (q : Row) (hi : i < a) : (putRows R a q)[i]? = R[i]? := by
  unfold putRows
  have hl : (R.take a).length = a := by rw [List.length_take]; omega
  rw [List.append_assoc, List.getElem?_append_left (by omega), List.getElem?_take_of_lt hi]
theorem putRows_at {R : List Row} {a : Nat} (h : a ≤ R.length) (q : Row) : (putRows R a q)[a]? = some q := by
  unfold putRows
  have hl : (R.take a).length = a := by rw [List.length_take]; omega
  rw [List.append_assoc, List.getElem?_append_right (by omega), hl, Nat.sub_self]
  rfl
theorem putRows_gt {R : List Row} {a i : Nat} (h : a ≤ R.length) (q : Row) (hi : a < i) : (putRows R a q)[i]? = (R[i - 1]?).map fun r => r.map (sh a) := by
  unfold putRows
  have hl : (R.take a ++ [q]).length = a + 1 := by rw [List.length_append, List.length_take, List.length_singleton]; omega
  rw [List.getElem?_append_right (by omega), hl, List.getElem?_map, List.getElem?_drop, show a + (i - (a + 1)) = i - 1 by omega]
theorem sh_lt {a x b : Nat} (h : x < b) : sh a x < b + 1 := by
  unfold sh
  split <;> omega
theorem putRows_vr {R : List Row} {a : Nat} {q : Row} (V : VR R) (h : a ≤ R.length) (hl : q.length = 4) (hq : ∀ x ∈ q, x < a + 2) : VR (putRows R a q) := fun i r hr => by
  rcases Nat.lt_trichotomy i a with c | c | c
  · rw [putRows_lt h q c] at hr
    exact V i r hr
  · subst c
    rw [putRows_at h q] at hr
    have e : q = r := Option.some.inj hr
    subst e
    exact ⟨hl, hq⟩
  · rw [putRows_gt h q c] at hr
    obtain ⟨r0, h0, e⟩ := Option.map_eq_some_iff.mp hr
    obtain ⟨v1, v2⟩ := V _ _ h0
    subst e
    refine ⟨by rw [List.length_map]; exact v1, fun x hx => ?_⟩
    obtain ⟨y, hy, rfl⟩ := List.mem_map.mp hx
    have := sh_lt (a := a) (v2 y hy)
    omega
theorem put_top {R : List Row} {a top : Nat} {q : Row} (h : a ≤ R.length) (ht : top < R.length + 2) : sh a top < (putRows R a q).length + 2 := by
  rw [putRows_len h]
  have := sh_lt (a := a) ht
  omega
/-! a number of a row made another -/
def usedRows (R : List Row) (k j new : Nat) : List Row := R.take k ++ [(R.getD k []).take j ++ [new] ++ (R.getD k []).drop (j + 1)] ++ R.drop (k + 1)
theorem usedRows_lt {R : List Row} {k j new i : Nat} (hk : k < R.length) (hi : i < k) : (usedRows R k j new)[i]? = R[i]? := by
  unfold usedRows
  have hl : (R.take k).length = k := by rw [List.length_take]; omega
  rw [List.append_assoc, List.getElem?_append_left (by omega), List.getElem?_take_of_lt hi]
theorem usedRows_at {R : List Row} {k j new : Nat} (hk : k < R.length) : (usedRows R k j new)[k]? = some ((R.getD k []).take j ++ [new] ++ (R.getD k []).drop (j + 1)) := by
  unfold usedRows
  have hl : (R.take k).length = k := by rw [List.length_take]; omega
  rw [List.append_assoc, List.getElem?_append_right (by omega), hl, Nat.sub_self]
  rfl
theorem usedRows_gt {R : List Row} {k j new i : Nat} (hk : k < R.length) (hi : k < i) : (usedRows R k j new)[i]? = R[i]? := by
  unfold usedRows
  have hl : (R.take k ++ [(R.getD k []).take j ++ [new] ++ (R.getD k []).drop (j + 1)]).length = k + 1 := by rw [List.length_append, List.length_take, List.length_singleton]; omega
  rw [List.getElem?_append_right (by omega), hl, List.getElem?_drop, show k + 1 + (i - (k + 1)) = i by omega]
theorem usedRows_len {R : List Row} {k j new : Nat} (hk : k < R.length) : (usedRows R k j new).length = R.length := by
  unfold usedRows
  rw [List.length_append, List.length_append, List.length_take, List.length_drop, List.length_singleton]
  omega
theorem usedRows_vr {R : List Row} {k j new : Nat} (V : VR R) (hk : k < R.length) (hj : j < 4) (hn : new < k + 2) : VR (usedRows R k j new) := fun i r hr => by
  rcases Nat.lt_trichotomy i k with c | c | c
  · rw [usedRows_lt hk c] at hr
    exact V i r hr
  · subst c
    rw [usedRows_at hk] at hr
    have e := Option.some.inj hr
    have hg : R[i]? = some (R.getD i []) := by rw [List.getD_eq_getElem?_getD, List.getElem?_eq_getElem hk]; rfl
    obtain ⟨v1, v2⟩ := V _ _ hg
    subst e
    refine ⟨by rw [List.length_append, List.length_append, List.length_take, List.length_drop, List.length_singleton, v1]; omega, fun x hx => ?_⟩
    rcases List.mem_append.mp hx with hx | hx
    · rcases List.mem_append.mp hx with hx | hx
      · exact v2 x (List.mem_of_mem_take hx)
      · have e : x = new := by simpa using hx
        rw [e]
        exact hn
    · exact v2 x (List.mem_of_mem_drop hx)
  · rw [usedRows_gt hk c] at hr
    exact V i r hr
/-- what _law_used may give -/
inductive Used (R : List Row) (top new first : Nat) : List Row → Nat → Prop where
  | row (k j : Nat) (h1 : first ≤ k) (h2 : k < R.length) (h3 : j < 4) : Used R top new first (usedRows R k j new) top
  | top : Used R top new first R new
  | same : Used R top new first R top
theorem Used.ok {R R' : List Row} {top top' new first : Nat} (u : Used R top new first R' top') (V : VR R) (ht : top < R.length + 2) (hn : new < first + 2) (hf : first ≤ R.length) :
    VR R' ∧ top' < R'.length + 2 ∧ R'.length = R.length ∧ ∀ i, i < first → R'[i]? = R[i]? := by
  cases u with
  | row k j h1 h2 h3 => exact ⟨usedRows_vr V h2 h3 (by omega), by rw [usedRows_len h2]; exact ht, usedRows_len h2, fun i hi => usedRows_lt h2 (by omega)⟩
  | top => exact ⟨V, by omega, rfl, fun _ _ => rfl⟩
  | same => exact ⟨V, ht, rfl, fun _ _ => rfl⟩
/-! two rows in turn -/
def sw (a x : Nat) : Nat := if x = a + 2 then a + 3 else if x = a + 3 then a + 2 else x
theorem sw_sw (a x : Nat) : sw a (sw a x) = x := by
  unfold sw
  by_cases h1 : x = a + 2
  · rw [if_pos h1, if_neg (by omega), if_pos rfl, h1]
  · rw [if_neg h1]
    by_cases h2 : x = a + 3
    · rw [if_pos h2, if_pos rfl, h2]
    · rw [if_neg h2, if_neg h1, if_neg h2]
theorem sw_inj {a x y : Nat} (h : sw a x = sw a y) : x = y := by
  rw [← sw_sw a x, h, sw_sw]
theorem sw_one (a x : Nat) : sw a x ≤ 1 ↔ x ≤ 1 := by
  unfold sw
  by_cases h1 : x = a + 2
  · rw [if_pos h1]; omega
  · rw [if_neg h1]
    by_cases h2 : x = a + 3
    · rw [if_pos h2]; omega
    · rw [if_neg h2]
theorem sw_fix {a x : Nat} (h : x < a + 2) : sw a x = x := by
  unfold sw
  rw [if_neg (by omega), if_neg (by omega)]
theorem sw_lt {a x n : Nat} (h : a + 3 < n) (hx : x < n) : sw a x < n := by
  unfold sw
  by_cases h1 : x = a + 2
  · rw [if_pos h1]; omega
  · rw [if_neg h1]
    by_cases h2 : x = a + 3
    · rw [if_pos h2]; omega
    · rw [if_neg h2]; exact hx
theorem map_sw_sw (a : Nat) (r : Row) : (r.map (sw a)).map (sw a) = r := by
  rw [List.map_map]
  conv => rhs; rw [← List.map_id r]
  exact List.map_congr_left fun x _ => sw_sw a x
def swX (R : List Row) (a : Nat) : List Row := R.map fun r => r.map (sw a)
def swRows (R : List Row) (a : Nat) : List Row := ((swX R a).set a ((swX R a).getD (a + 1) [])).set (a + 1) ((swX R a).getD a [])
theorem swRows_len (R : List Row) (a : Nat) : (swRows R a).length = R.length := by
  unfold swRows swX
  rw [List.length_set, List.length_set, List.length_map]
theorem swX_get {R : List Row} {a i : Nat} {r : Row} (h : R[i]? = some r) : (swX R a)[i]? = some (r.map (sw a)) := by
  unfold swX
  rw [List.getElem?_map, h] <;> rfl
theorem swX_getD {R : List Row} {a i : Nat} {r : Row} (h : R[i]? = some r) : (swX R a).getD i [] = r.map (sw a) := by
  rw [List.getD_eq_getElem?_getD, swX_get h] <;> rfl
/-- the row of a number and that of the number in its turn -/
theorem swRows_row {R : List Row} {a : Nat} (ha : a + 1 < R.length) {x : Nat} (h2 : 2 ≤ x) (hx : x < R.length + 2) : (swRows R a)[sw a x - 2]? = some ((row R x).map (sw a)) := by
  have hl : (swX R a).length = R.length := by unfold swX; rw [List.length_map]
  unfold swRows
  by_cases h1 : x = a + 2
  · have es : sw a x = a + 3 := by unfold sw; rw [if_pos h1]
    rw [es, show a + 3 - 2 = a + 1 by omega, List.getElem?_set_self (by rw [List.length_set, hl]; omega)]
    have e := row_get h2 hx
    rw [swX_getD (r := row R x) (by rw [← e, h1] <;> rfl)]
  · by_cases h3 : x = a + 3
    · have es : sw a x = a + 2 := by unfold sw; rw [if_neg h1, if_pos h3]
      rw [es, show a + 2 - 2 = a by omega, List.getElem?_set_ne (by omega), List.getElem?_set_self (by rw [hl]; omega)]
      have e := row_get h2 hx
      rw [swX_getD (r := row R x) (by rw [← e, h3] <;> rfl)]
    · have es : sw a x = x := by unfold sw; rw [if_neg h1, if_neg h3]
      rw [es, List.getElem?_set_ne (by omega), List.getElem?_set_ne (by omega), swX_get (row_get h2 hx)]
theorem swRows_get {R : List Row} {a : Nat} (ha : a + 1 < R.length) {i : Nat} (hi : i < R.length) : (swRows R a)[i]? = some ((row R (sw a (i + 2))).map (sw a)) := by
  have h1 : ¬ sw a (i + 2) ≤ 1 := fun z => by
    have := (sw_one a (i + 2)).mp z
    omega
  have h2 : sw a (i + 2) < R.length + 2 := sw_lt (by omega) (by omega)
  have q := swRows_row ha (x := sw a (i + 2)) (by omega) h2
  rw [sw_sw, Nat.add_sub_cancel] at q
  exact q
theorem swRows_wf {R : List Row} {a : Nat} (w : WF R) (ha : a + 1 < R.length) (hn : a + 2 ∉ row R (a + 3)) : WF (swRows R a) := by
  have rg : ∀ i, i < R.length → 2 ≤ sw a (i + 2) ∧ sw a (i + 2) < R.length + 2 := fun i hi => by
    have h1 : ¬ sw a (i + 2) ≤ 1 := fun z => by
      have := (sw_one a (i + 2)).mp z
      omega
    exact ⟨by omega, sw_lt (by omega) (by omega)⟩
  refine ⟨fun i r hr => ?_, ?_, fun r hr hp => ?_⟩
  · have hi : i < R.length := by
      have := (List.getElem?_eq_some_iff.mp hr).1
      rw [swRows_len] at this
      exact this
    obtain ⟨g1, g2⟩ := rg i hi
    rw [swRows_get ha hi] at hr
    have e := Option.some.inj hr
    subst e
    refine ⟨by rw [List.length_map]; exact row_len w.v g1 g2, fun x hx => ?_⟩
    obtain ⟨y, hy, rfl⟩ := List.mem_map.mp hx
    have hlt := row_lt w.v g1 g2 hy
    by_cases c1 : i = a
    · subst c1
      have es : sw i (i + 2) = i + 3 := by unfold sw; rw [if_pos rfl]
      rw [es] at hy hlt
      have hne : y ≠ i + 2 := fun z => hn (z ▸ hy)
      rw [sw_fix (by omega)]
      omega
    · by_cases c2 : i = a + 1
      · subst c2
        have es : sw a (a + 1 + 2) = a + 2 := by unfold sw; rw [if_neg (by omega), if_pos (by omega)]
        rw [es] at hy hlt
        rw [sw_fix (by omega)]
        omega
      · have es : sw a (i + 2) = i + 2 := by unfold sw; rw [if_neg (by omega), if_neg (by omega)]
        rw [es] at hlt
        by_cases c3 : i < a
        · rw [sw_fix (by omega)]
          exact hlt
        · exact sw_lt (by omega) hlt
  · refine List.pairwise_iff_getElem.mpr fun i j hi hj hij e => ?_
    rw [swRows_len] at hi hj
    have q1 := swRows_get ha hi
    have q2 := swRows_get ha hj
    have p1 : (swRows R a)[i]? = some (swRows R a)[i] := List.getElem?_eq_getElem (by rw [swRows_len]; exact hi)
    have p2 : (swRows R a)[j]? = some (swRows R a)[j] := List.getElem?_eq_getElem (by rw [swRows_len]; exact hj)
    rw [p1] at q1
    rw [p2] at q2
    have q3 : (row R (sw a (i + 2))).map (sw a) = (row R (sw a (j + 2))).map (sw a) := by rw [← Option.some.inj q1, ← Option.some.inj q2, e]
    have q4 : row R (sw a (i + 2)) = row R (sw a (j + 2)) := by rw [← map_sw_sw a (row R (sw a (i + 2))), q3, map_sw_sw]
    obtain ⟨g1, g2⟩ := rg i hi
    obtain ⟨g3, g4⟩ := rg j hj
    have z1 := row_get g1 g2
    have z2 := row_get g3 g4
    rw [← q4] at z2
    have z3 := nodup_get w.nd z1 z2
    have z4 : sw a (i + 2) = sw a (j + 2) := by omega
    have z5 := sw_inj z4
    omega
  · obtain ⟨i, hi⟩ := List.getElem?_of_mem hr
    have hil : i < R.length := by
      have := (List.getElem?_eq_some_iff.mp hi).1
      rw [swRows_len] at this
      exact this
    obtain ⟨g1, g2⟩ := rg i hil
    rw [swRows_get ha hil] at hi
    have e := Option.some.inj hi
    have p : Plain (row R (sw a (i + 2))) := by
      rw [← map_sw_sw a (row R (sw a (i + 2))), e]
      have e0 : sw a 0 = 0 := sw_fix (by omega)
      have e1 : sw a 1 = 1 := sw_fix (by omega)
      rcases hp with h | h
      · rw [h]
        left
        show [sw a 0, sw a 0, sw a 0, sw a 0] = _
        rw [e0]
      · rw [h]
        right
        show [sw a 1, sw a 1, sw a 1, sw a 1] = _
        rw [e1]
    exact w.np _ (List.mem_of_getElem? (row_get g1 g2)) p
theorem mem_map_sw {a x : Nat} {F : List Nat} : sw a x ∈ F.map (sw a) ↔ x ∈ F := by
  rw [List.mem_map]
  constructor
  · rintro ⟨y, hy, e⟩
    rw [← sw_inj e]
    exact hy
  · exact fun h => ⟨x, h, rfl⟩
theorem sw_ord {R : List Row} {a : Nat} (V : VR R) (ha : a + 1 < R.length) : ∀ (d x : Nat) (F : List Nat), x < R.length + 2 → ord (swRows R a) d (sw a x) (F.map (sw a)) = (ord R d x F).map (sw a)
  | 0, x, F, _ => rfl
  | d + 1, x, F, hx => by
    by_cases hs : x ≤ 1 ∨ x ∈ F
    · rw [ord_skip R _ x F hs, ord_skip _ _ _ _ (by
        rcases hs with h | h
        · exact .inl ((sw_one a x).mpr h)
        · exact .inr (mem_map_sw.mpr h))]
    · have h2 : 2 ≤ x := by
        have := fun q => hs (.inl q)
        omega
      rw [ord_succ R, if_neg hs, ord_succ, if_neg (fun z => hs (by
        rcases z with h | h
        · exact .inl ((sw_one a x).mp h)
        · exact .inr (mem_map_sw.mp h)))]
      have er : row (swRows R a) (sw a x) = (row R x).map (sw a) := by
        have h1 : ¬ sw a x ≤ 1 := fun z => by
          have := (sw_one a x).mp z
          omega
        have q := row_at (swRows_row ha h2 hx)
        rw [show sw a x - 2 + 2 = sw a x by omega] at q
        exact q
      rw [er, List.map_append]
      congr 1
      have hf : ∀ (ys : List Nat) (G : List Nat), (∀ y ∈ ys, y < R.length + 2) → (ys.map (sw a)).foldl (fun F y => ord (swRows R a) d y F) (G.map (sw a)) = (ys.foldl (fun F y => ord R d y F) G).map (sw a) := by
        intro ys
        induction ys with
        | nil => intro G _; rfl
        | cons y ys ih =>
          intro G h
          rw [List.map_cons, List.foldl_cons, List.foldl_cons, sw_ord V ha d y G (h y List.mem_cons_self)]
          exact ih _ fun z hz => h z (List.mem_cons_of_mem _ hz)
      exact hf (row R x) F fun y hy => by
        have := row_lt V h2 hx hy
        omega
theorem idxOf_map_sw (a x : Nat) : ∀ F : List Nat, (F.map (sw a)).idxOf (sw a x) = F.idxOf x
  | [] => rfl
  | y :: F => by
    rw [List.map_cons, List.idxOf_cons, List.idxOf_cons, idxOf_map_sw a x F]
    have e : (sw a y == sw a x) = (y == x) := by
      by_cases h : y = x
      · rw [h, beq_self_eq_true, beq_self_eq_true]
      · rw [beq_eq_false_iff_ne.mpr h, beq_eq_false_iff_ne.mpr fun z => h (sw_inj z)]
    rw [e]
theorem newOf_sw (a x : Nat) (F : List Nat) : newOf (F.map (sw a)) (sw a x) = newOf F x := by
  unfold newOf
  by_cases h : x ≤ 1
  · rw [if_pos h, if_pos ((sw_one a x).mpr h), sw_fix (by omega)]
  · rw [if_neg h, if_neg (fun z => h ((sw_one a x).mp z)), idxOf_map_sw]
theorem odd_turned {top a : Nat} {R : List Row} (c : Canon top R) (hf : R.length ≤ 5592406) (hd : dep R top ≤ 12) (ha : a + 1 < R.length) (hn : a + 2 ∉ row R (a + 3)) : Odd (sw a top) (swRows R a) := by
  have w := swRows_wf c.wf ha hn
  have ht : sw a top < (swRows R a).length + 2 := by
    rw [swRows_len]
    exact sw_lt (by omega) c.lt
  refine ⟨w.v, ht, by rw [swRows_len]; exact hf, fun _ e => ?_⟩
  obtain ⟨e1, e2⟩ := (take_ok _ w.v).id_ w
  have es : oneOf (sw a top) (swRows R a) = (top, R) := by
    unfold oneOf
    rw [e1, e2 _ ht]
    have eo := sw_ord c.wf.v ha 12 top [] c.lt
    rw [List.map_nil] at eo
    have eq := shapeOf_seg c.wf.v c.lt c.ord
    obtain ⟨o, _⟩ := ord_ok c.wf.v 12 top [] c.lt hd (Good.nil _)
    rw [← eq]
    unfold shapeOf
    rw [eo, newOf_sw, List.map_map]
    congr 1
    refine List.map_congr_left fun x hx => ?_
    obtain ⟨h2, h3⟩ := o.good.rg x hx
    have h1 : ¬ sw a x ≤ 1 := fun z => by
      have := (sw_one a x).mp z
      omega
    have q := row_at (swRows_row ha h2 h3)
    rw [show sw a x - 2 + 2 = sw a x by omega] at q
    show (row (swRows R a) (sw a x)).map _ = _
    rw [q, List.map_map]
    exact List.map_congr_left fun y _ => newOf_sw a y _
  rw [es] at e
  have eR : R = swRows R a := congrArg Prod.snd e
  have z1 := swRows_get ha (i := a + 1) ha
  have z2 := row_get (R := R) (x := a + 2) (by omega) (by omega)
  have z3 := row_get (R := R) (x := a + 3) (by omega) (by omega)
  have es2 : sw a (a + 1 + 2) = a + 2 := by unfold sw; rw [if_neg (by omega), if_pos (by omega)]
  rw [es2, ← eR] at z1
  have z4 : (row R (a + 2)).map (sw a) = row R (a + 2) := by
    conv => rhs; rw [← List.map_id (row R (a + 2))]
    refine List.map_congr_left fun x hx => ?_
    exact sw_fix (row_lt c.wf.v (by omega) (by omega) hx)
  rw [z4] at z1
  have z5 := nodup_get c.wf.nd (i := a + 1) (j := a) z1 z2
  omega
/-- a row that nobody uses -/
theorem odd_spare {top : Nat} {R : List Row} {q : Row} (V : VR R) (ht : top < R.length + 2) (hf : R.length ≤ 5592405) (hl : q.length = 4) (hq : ∀ x ∈ q, x < R.length + 2) : Odd (sh R.length top) (putRows R R.length q) := by
  have e : sh R.length top = top := by unfold sh; rw [if_neg (by omega)]
  have l := putRows_len (R := R) (Nat.le_refl _) q
  have V' := putRows_vr V (Nat.le_refl _) hl hq
  rw [e]
  refine ⟨V', by omega, by omega, fun hd => not_one_top V' (by omega) hd fun z => ?_⟩
  rw [z] at l
  simp at l
end K13
namespace K13
open PySem PySem.Spec PyProof.Rows L2
/-! the text by places -/
def top (i : Nat) : Stmt := PySem.Challenge.pw_quarterfold_k13_whole_one_shape.main.body.getD i (.Pass ⟨0, 0, 0, 0⟩)
abbrev sIsWhole : Stmt := top 5
abbrev sIsSize : Stmt := top 6
abbrev sWantSize : Stmt := top 7
abbrev sOneOf : Stmt := top 10
abbrev sIsNumber : Stmt := top 12
abbrev sIsRow : Stmt := top 13
abbrev sDepthsOf : Stmt := top 14
abbrev sIsTelling : Stmt := top 15
abbrev sIsShape : Stmt := top 16
abbrev sEmpty : Stmt := top 17
abbrev sFull : Stmt := top 18
abbrev sLPot : Stmt := top 20
abbrev sLDigit : Stmt := top 21
abbrev sLCells : Stmt := top 22
abbrev sLBox : Stmt := top 23
abbrev sLBoxes : Stmt := top 24
abbrev sLMeets : Stmt := top 25
abbrev sLHas : Stmt := top 26
abbrev sLNumber : Stmt := top 27
abbrev sLShape : Stmt := top 28
abbrev sLPutIn : Stmt := top 29
abbrev sLUsed : Stmt := top 30
abbrev sLTurned : Stmt := top 31
abbrev sLOthers : Stmt := top 32
abbrev sLDeep : Stmt := top 33
abbrev sLaw : Stmt := top 34
abbrev sRInit : Stmt := inClass (top 9) 0
abbrev sRNumber : Stmt := inClass (top 9) 1
abbrev sRQuarters : Stmt := inClass (top 9) 2
abbrev sRTake : Stmt := inClass (top 9) 3
abbrev sROrder : Stmt := inClass (top 9) 4
abbrev sRShape : Stmt := inClass (top 9) 5
abbrev FnP (K : PySem.W.Frag) (x q : Str) (st : Stmt) (f : Addr) (fd : FuncData) : Prop := FunD K x q (defArgs st) (defBody st) (defScope st) [] [] f fd
theorem scIsWhole : FnScope ["thing"] ["thing"] (defScope sIsWhole) := ⟨rfl, rfl, rfl, by decide +kernel, rfl, by decide +kernel, by decide +kernel⟩
theorem scIsSize : FnScope ["thing"] ["thing"] (defScope sIsSize) := ⟨rfl, rfl, rfl, by decide +kernel, rfl, by decide +kernel, by decide +kernel⟩
theorem scWantSize : FnScope ["n"] ["n"] (defScope sWantSize) := ⟨rfl, rfl, rfl, by decide +kernel, rfl, by decide +kernel, by decide +kernel⟩
theorem scOneOf : FnScope ["telling", "rows", "top"] ["telling"] (defScope sOneOf) := ⟨rfl, rfl, rfl, by decide +kernel, rfl, by decide +kernel, by decide +kernel⟩
theorem scIsNumber : FnScope ["thing", "most"] ["thing", "most"] (defScope sIsNumber) := ⟨rfl, rfl, rfl, by decide +kernel, rfl, by decide +kernel, by decide +kernel⟩
theorem scIsRow : FnScope ["thing", "place", "one"] ["thing", "place"] (defScope sIsRow) := ⟨rfl, rfl, rfl, by decide +kernel, rfl, by decide +kernel, by decide +kernel⟩
theorem scDepthsOf : FnScope ["rows", "found", "row", "number"] ["rows"] (defScope sDepthsOf) := ⟨rfl, rfl, rfl, by decide +kernel, rfl, by decide +kernel, by decide +kernel⟩
theorem scIsTelling : FnScope ["thing", "n", "top", "rows", "place", "row"] ["thing"] (defScope sIsTelling) := ⟨rfl, rfl, rfl, by decide +kernel, rfl, by decide +kernel, by decide +kernel⟩
theorem scIsShape : FnScope ["thing"] ["thing"] (defScope sIsShape) := ⟨rfl, rfl, rfl, by decide +kernel, rfl, by decide +kernel, by decide +kernel⟩
theorem scEmpty : FnScope ["n"] ["n"] (defScope sEmpty) := ⟨rfl, rfl, rfl, by decide +kernel, rfl, by decide +kernel, by decide +kernel⟩
theorem scFull : FnScope ["n"] ["n"] (defScope sFull) := ⟨rfl, rfl, rfl, by decide +kernel, rfl, by decide +kernel, by decide +kernel⟩
theorem scLPot : FnScope ["_law_script", "_law_k", "_law_cell"] ["_law_script", "_law_k"] (defScope sLPot) := ⟨rfl, rfl, rfl, by decide +kernel, rfl, by decide +kernel, by decide +kernel⟩
theorem scLDigit : FnScope ["_law_pot_here", "_law_many", "_law_digit_here"] ["_law_pot_here", "_law_many"] (defScope sLDigit) := ⟨rfl, rfl, rfl, by decide +kernel, rfl, by decide +kernel, by decide +kernel⟩
theorem scLCells : FnScope ["_law_pot_here", "_law_n", "_law_side", "_law_k"] ["_law_pot_here", "_law_n"] (defScope sLCells) := ⟨rfl, rfl, rfl, by decide +kernel, rfl, by decide +kernel, by decide +kernel⟩
theorem scLBox : FnScope ["_law_pot_here", "_law_n", "_law_most", "_law_side", "_law_size", "_law_row", "_law_column", "_law_high", "_law_wide"] ["_law_pot_here", "_law_n", "_law_most"] (defScope sLBox) := ⟨rfl, rfl, rfl, by decide +kernel, rfl, by decide +kernel, by decide +kernel⟩
theorem scLBoxes : FnScope ["_law_pot_here", "_law_n", "_law_k"] ["_law_pot_here", "_law_n"] (defScope sLBoxes) := ⟨rfl, rfl, rfl, by decide +kernel, rfl, by decide +kernel, by decide +kernel⟩
theorem scLMeets : FnScope ["_law_box_here", "_law_row", "_law_column", "_law_side"] ["_law_box_here", "_law_row", "_law_column", "_law_side"] (defScope sLMeets) := ⟨rfl, rfl, rfl, by decide +kernel, rfl, by decide +kernel, by decide +kernel⟩
theorem scLHas : FnScope ["_law_box_here", "_law_row", "_law_column", "_law_side"] ["_law_box_here", "_law_row", "_law_column", "_law_side"] (defScope sLHas) := ⟨rfl, rfl, rfl, by decide +kernel, rfl, by decide +kernel, by decide +kernel⟩
theorem scLNumber : FnScope ["_law_rows", "_law_boxes_here", "_law_row", "_law_column", "_law_side", "_law_met", "_law_box_here", "_law_half", "_law_quarters", "_law_k"] ["_law_rows", "_law_boxes_here", "_law_row", "_law_column", "_law_side"] (defScope sLNumber) := ⟨rfl, rfl, rfl, by decide +kernel, rfl, by decide +kernel, by decide +kernel⟩
theorem scLShape : FnScope ["_law_n", "_law_boxes_here", "_law_rows", "_law_top"] ["_law_n", "_law_boxes_here"] (defScope sLShape) := ⟨rfl, rfl, rfl, by decide +kernel, rfl, by decide +kernel, by decide +kernel⟩
theorem scLPutIn : FnScope ["_law_telling", "_law_at", "_law_row", "_law_n", "_law_top", "_law_rows", "_law_later", "_law_number_here", "_law_old"] ["_law_telling", "_law_at", "_law_row"] (defScope sLPutIn) := ⟨rfl, rfl, rfl, by decide +kernel, rfl, by decide +kernel, by decide +kernel⟩
theorem scLUsed : FnScope ["_law_telling", "_law_old", "_law_new", "_law_first", "_law_n", "_law_top", "_law_rows", "_law_k", "_law_at"] ["_law_telling", "_law_old", "_law_new", "_law_first"] (defScope sLUsed) := ⟨rfl, rfl, rfl, by decide +kernel, rfl, by decide +kernel, by decide +kernel⟩
theorem scLTurned : FnScope ["_law_telling", "_law_at", "_law_n", "_law_top", "_law_rows", "_law_names", "_law_swapped", "_law_number_here", "_law_row"] ["_law_telling", "_law_at"] (defScope sLTurned) := ⟨rfl, rfl, rfl, by decide +kernel, rfl, by decide +kernel, by decide +kernel⟩
theorem scLOthers : FnScope ["_law_pot_here", "_law_shape_here", "_law_n", "_law_top", "_law_rows", "_law_at", "_law_plain", "_law_found", "_law_k", "_law_twice", "_law_j"] ["_law_pot_here", "_law_shape_here"] (defScope sLOthers) := ⟨rfl, rfl, rfl, by decide +kernel, rfl, by decide +kernel, by decide +kernel⟩
theorem scLDeep : FnScope ["_law_telling", "_law_depths", "_law_row", "_law_number_here"] ["_law_telling"] (defScope sLDeep) := ⟨rfl, rfl, rfl, by decide +kernel, rfl, by decide +kernel, by decide +kernel⟩
theorem scLaw : FnScope ["_law_script", "_law_k", "_law_pot_here", "_law_n", "_law_shape_here", "_law_other"] ["_law_script"] (defScope sLaw) := ⟨rfl, rfl, rfl, by decide +kernel, rfl, by decide +kernel, by decide +kernel⟩
theorem scRInit : FnScope ["self"] ["self"] (defScope sRInit) := ⟨rfl, rfl, rfl, by decide +kernel, rfl, by decide +kernel, by decide +kernel⟩
theorem scRNumber : FnScope ["self", "quarters"] ["self", "quarters"] (defScope sRNumber) := ⟨rfl, rfl, rfl, by decide +kernel, rfl, by decide +kernel, by decide +kernel⟩
theorem scRQuarters : FnScope ["self", "number"] ["self", "number"] (defScope sRQuarters) := ⟨rfl, rfl, rfl, by decide +kernel, rfl, by decide +kernel, by decide +kernel⟩
theorem scRTake : FnScope ["self", "telling", "n", "top", "rows", "here", "row", "number"] ["self", "telling"] (defScope sRTake) := ⟨rfl, rfl, rfl, by decide +kernel, rfl, by decide +kernel, by decide +kernel⟩
theorem scROrder : FnScope ["self", "number", "found", "quarter"] ["self", "number", "found"] (defScope sROrder) := ⟨rfl, rfl, rfl, by decide +kernel, rfl, by decide +kernel, by decide +kernel⟩
theorem scRShape : FnScope ["self", "n", "top", "new", "rows", "number", "quarter"] ["self", "n", "top"] (defScope sRShape) := ⟨rfl, rfl, rfl, by decide +kernel, rfl, by decide +kernel, by decide +kernel⟩
/-! ### rules that the layer lacks -/
section
variable {X : Cx}
/-- x in a tuple of data -/
def rInT (K : PySem.W.Frag) : R2 := fun x y H Q => ∃ d ds, Dp K H x d ∧ Dp K H y (.tuple ds) ∧ (SeqAt.shaped d = true ∧ SeqAt.shaped (.tuple ds) = true) ∧ Q (.bl (ds.any fun z => PyData.eqv z d)) H
theorem op_inT (hu : X.A.units + 65 < cLine) : OpR X (compareOp .In) (rInT X.K) := by
  intro pins s σ H x y v u Q I r1 r2 ⟨d, ds, h1, h2, ⟨s1, s2⟩, q⟩
  obtain ⟨_, e1⟩ := Dp.reads I d x v h1 r1
  obtain ⟨_, e2⟩ := Dp.reads I (.tuple ds) y u h2 r2
  have c1 := SeqAt.canLay_of_shaped s1
  have c2 : PyData.canLayAll0 ds = true := SeqAt.canLay_of_shaped s2
  exact SeqAt.in_tuple_reads e2 e1 c2 c1 (room_in_shaped s1 hu) ⟨.bl _, H, I, rfl, q⟩
/-- t.index(i), the first place, t a tuple of whole numbers -/
def rTupIdx (K : PySem.W.Frag) : V → List V → Hp → VK → Prop := fun x xs H Q => ∃ (p : Addr) (ys : List Int) (z : Int) (j : Nat), x = .ref p ∧ xs = [.int z] ∧ SqT K H p (ys.map V.int) ∧ ys[j]? = some z ∧ (∀ m, m < j → ys[m]? ≠ some z) ∧ Q (.int (j : Nat)) H
theorem flat_ints (ys : List Int) : (ys.map V.int).all flatV = true := List.all_eq_true.mpr fun y h => by
  obtain ⟨_, _, rfl⟩ := List.mem_map.mp h
  rfl
theorem mt_tupIdx : MtR X "tuple.index" (rTupIdx X.K) := by
  intro pins s σ H x xs v us Q I rx rs ⟨p, ys, z, j, e1, e2, hq, hy, hno, q⟩
  subst e1 e2
  cases rx
  obtain ⟨_, rfl, t, rfl⟩ := vals1 rs
  obtain ⟨its, r, ⟨⟨cls, dd, dt, sl⟩, ho, hc, n, hd⟩, hz⟩ := I.tuple hq
  simp only at hc hd
  subst hc hd
  have hl : its.toArray.size = ys.length := by
    have := r.length
    rw [List.length_map] at this
    rw [List.size_toArray]
    omega
  have at2 : ∀ (m : Nat) (hm : m < its.toArray.size), ∃ y t', ys[m]? = some y ∧ its.toArray[m] = Value.int y t' := fun m hm => by
    have hm2 : m < ys.length := hl ▸ hm
    obtain ⟨w, hw, t', e⟩ := r.get (i := m) (x := .int ys[m]) (by simp [hm2])
    obtain ⟨_, e3⟩ := List.getElem?_eq_some_iff.mp hw
    exact ⟨ys[m], t', List.getElem?_eq_getElem hm2, by rw [← e, ← e3]; simp⟩
  have hj : j < its.toArray.size := hl.symm ▸ (List.getElem?_eq_some_iff.mp hy).1
  have a1 : eqU (.int z) its.toArray[j] = true := by
    obtain ⟨y, t', h1, h2⟩ := at2 j hj
    rw [hy] at h1
    cases h1
    rw [h2]
    exact beq_self_eq_true z
  have a2 : ∀ m (hm : m < its.toArray.size), m < j → eqU (.int z) its.toArray[m] = false := fun m hm hmj => by
    obtain ⟨y, t', h1, h2⟩ := at2 m hm
    rw [h2]
    exact beq_eq_false_iff_ne.mpr fun e => hno m hmj (e ▸ h1)
  exact call_meets PySem.F.slot_tuple_index ⟨_, ho, rfl⟩ PySem.F.entry_tuple_index (PySem.F.args_tuple_index_2 _ _) (TI.tuple_indexAt p its.toArray n dd sl (.int z t) (eqU (.int z)) j hj a1 a2)
    ⟨ho, fun w hw => mem_eqAt (x := .int z) ⟨t, rfl⟩ rfl r (flat_ints ys) w (by simpa using hw), ⟨.int (j : Nat), H, I.tok _, ⟨_, rfl⟩, q⟩⟩
end
/-! tuple(d), d a dict whose keys are tuples -/
section
variable {prog : Program} {w : World} {A : Around} {E : Value → Shared → Prop} {s : Shared}
theorem tuple_new_src {d : Addr} {n : Nat} {P : Nat → Value → Prop} {OK : Heap → Prop} {Q1 : Value → Shared → Prop} (K : PySem.W.KdlSrc prog w "dict" d d n P OK) (hh : A.handled = none) (hok : OK s.heap) (hn : n ≤ sizeLine)
    (h : ∀ (g : Heap) (tk : Nat) (acc : Array Value), (∀ b o, s.heap.get? b = some o → g.get? b = some o) → ItemsOf P acc n → Q1 (.ref g.objs.size) { s with heap := g.push { cls := .type "tuple", data := .seq acc }, toks := tk }) :
    codeAny (model prog w) A (.call (.builtin "tuple.__new__") ⟨[.type "tuple", .ref d], []⟩) (wants Q1 E) s := by
  refine codeAny_of_tree (show wpAny _ A.in1 (do checkBuiltinCall "tuple.__new__" ⟨[.type "tuple", .ref d], []⟩; again (.builtin "tuple.__new__" ⟨[.type "tuple", .ref d], []⟩)) _ _ s from ?_)
  refine wpAny_bind (wpAny_of_eq (PySem.F.newCall_tuple_1 _) (wpAny_pure ⟨plainId_quiet PySem.F.plain_tuple_new _, codeAny_builtin PySem.F.entry_tuple_new ?_⟩))
  rw [Around.under_plainId PySem.F.plain_tuple_new _]
  have h1 := sub_tuple_self
  have h2 := init_tuple_lookup
  have h3 := madeHere_tuple
  have h4 : s.TypeIs (.ref d) "dict" := K.type _ hok
  have h5 : A.in1.handled = none := hh
  wp_walk using wpAny_typeOf h4, PySem.W.kdu_collect (A := A.in1) K h5 hok hn
  intro g tk acc hk hacc
  show wpAny _ _ (Builtin.Tuple.tupleExact acc.toList.toArray >>= fun v => ret v) _ _ _
  unfold Builtin.Tuple.tupleExact
  have e : acc.toList.toArray = acc := by simp
  rw [e]
  exact wpAny_bind (wpAny_newObj_type (wpAny_pure (h g tk acc hk hacc)) (by show acc.size ≤ sizeLine; rw [hacc.1]; exact hn))
theorem tuple_of_src {d : Addr} {n : Nat} {P : Nat → Value → Prop} {OK : Heap → Prop} {Q : Value → Shared → Prop} (K : PySem.W.KdlSrc prog w "dict" d d n P OK) (hh : A.handled = none) (hok : OK s.heap) (hn : n ≤ sizeLine)
    (h : ∀ (g : Heap) (tk : Nat) (acc : Array Value), (∀ b o, s.heap.get? b = some o → g.get? b = some o) → ItemsOf P acc n → Q (.ref g.objs.size) { s with heap := g.push { cls := .type "tuple", data := .seq acc }, toks := tk }) :
    wpAny (model prog w) A (call (.type "tuple") [.ref d]) Q E s :=
  callType_codes (Q₁ := fun ob z => z.TypeIs ob "tuple" ∧ Q ob z) PySem.F.called_tuple (PySem.F.typeCall_tuple_1 _) PySem.F.entry_object_init
    (tuple_new_src (A := A.in1) K hh hok hn fun g tk acc hk hacc => ⟨⟨_, Heap.get?_push_size _ rfl, rfl⟩, h g tk acc hk hacc⟩) fun ob z hz =>
      ⟨hz.1, PySem.F.args_object_init_2 ob _, object_init_meets PySem.F.called_tuple.init.lookup PySem.F.called_tuple.made (by decide) prog w A.in1 _ z ⟨hz.1, rfl, hz.2⟩⟩
end
section
variable {X : Cx}
def rTupD : List V → Hp → VK → Prop := fun xs H Q => ∃ d kvs, xs = [V.ref d] ∧ Rd H d (.dT kvs) ∧ ∀ p bs, H p = none → IsKeys H kvs bs → Q (.ref p) (upd H p (.tup (bs.map V.ref)))
theorem call_tuple_dT (hc : X.calm = true) : CallR X (.type "tuple") rTupD := by
  intro pins s σ H xs us Q I r ⟨d, kvs, e0, hd, q⟩
  subst e0
  obtain ⟨u, rfl, rx⟩ := r.one
  cases rx
  obtain ⟨z, hs, ks, pr, o, es, ep, ho, hx, hdt, he, hn⟩ := (show ObjOk X.prog X.w H s.heap d (.dT kvs) from hd.ok I.hok)
  have l1 : es.size = ks.length := size_of_entries he
  have l2 : kvs.length = ks.length := Paired.length pr
  refine tuple_of_src (kdl_raw hs hx hdt) (I.ok.hd hc) ho (by omega) fun g tk acc kp it => ?_
  have ea : acc.toList = (ks.map fun x => x.2.1).map Value.ref := by
    have hl : acc.toList.length = ks.length := by rw [Array.length_toList, it.1, l1]
    refine List.ext_getElem? fun j => ?_
    rw [List.map_map, List.getElem?_map]
    by_cases c : j < ks.length
    · have hj : acc.toList[j]? = some acc.toList[j] := List.getElem?_eq_getElem (by omega)
      obtain ⟨en, hen, hv⟩ := it.2 j acc.toList[j] (by rw [← Array.getElem?_toList]; exact hj)
      have qe := entry_at he j
      have hb : ks[j]? = some ks[j] := List.getElem?_eq_getElem c
      rw [hen, hb] at qe
      have e2 : en = entryOfKey (tupleKind (mixKind X.prog X.w)) ks[j] := Option.some.inj qe
      rw [hj, hb, hv, e2] <;> rfl
    · rw [List.getElem?_eq_none (by omega), List.getElem?_eq_none (by omega)] <;> rfl
  have rv : Vals ((ks.map fun x => x.2.1).map V.ref) acc.toList := by rw [ea]; exact vals_refs _
  have I2 : Inv X pins σ H { s with heap := g, toks := tk } := I.kept kp
  have hz : ((ks.map fun x => x.2.1).map V.ref).length ≤ sizeLine := by rw [List.length_map, List.length_map]; omega
  have ob : ObjOk X.prog X.w (upd H g.objs.size (.tup ((ks.map fun x => x.2.1).map V.ref))) (g.push { cls := .type "tuple", data := .seq acc }) g.objs.size (.tup ((ks.map fun x => x.2.1).map V.ref)) :=
    ⟨hz, acc.toList, rv, by rw [Array.toArray_toList]; exact IsTup.new _ _⟩
  have hf : H g.objs.size = none := I2.hok.fresh (Nat.le_refl _)
  exact ⟨.ref g.objs.size, _, I2.laid (t' := tk) (fun b o e => Heap.get?_push_of_some _ e) (Nat.le_refl _) ob, rfl, q _ _ hf (isKeys_of pr)⟩
end
/-! enumerate(t), t a tuple -/
theorem meets_enum_tup (l : Addr) (items : Array Value) :
    Meets (Builtin.«enumerate.__new__» ⟨[.type "enumerate", .ref l], []⟩) (fun _ R s => s.heap.IsTuple l items ∧
      R (.ok (.ret (.ref (s.heap.push { cls := .type "tuple_iterator", data := .fields #[.ref l, .int 0 0] }).objs.size)))
        { s with heap := (s.heap.push { cls := .type "tuple_iterator", data := .fields #[.ref l, .int 0 0] }).push { cls := .type "enumerate", data := .fields #[.none, .bool false, .ref s.heap.objs.size, rawInt 0, .none, .none] } }) :=
  .of_wp fun prog w A R s h => by
    obtain ⟨hp, g, d, tk, os⟩ := s
    obtain ⟨hl, h⟩ := h
    have h0 := sub_enumerate
    have q1 : ∀ {A' : Around} {E : Value → Shared → Prop} {Q : Value → Shared → Prop}, Q (.ref hp.objs.size) ⟨hp.push { cls := .type "tuple_iterator", data := .fields #[.ref l, .int 0 0] }, g, d, tk, os⟩ → wpAny (model prog w) A' (pyIter (.ref l)) Q E ⟨hp, g, d, tk, os⟩ :=
      fun q => (begins_tuple l items).iter prog w _ _ ⟨hp, g, d, tk, os⟩ _ hl q
    wp_walk using q1
    refine wpAny_stack_any fun st => wpAny_pure ?_
    split
    · rename_i c _ _ _ _ _
      cases (c == Value.type "enumerate") <;> (wp_walk using q1; exact ⟨_, rfl, h⟩)
    · wp_walk using q1
      exact ⟨_, rfl, h⟩
theorem call_enum_tup {prog : Program} {w : World} {A : Around} {E : Value → Shared → Prop} {s : Shared} {l : Addr} {items : Array Value} {Q : Value → Shared → Prop} (hL : s.heap.IsTuple l items)
    (h : ∀ g, IsEnum g (s.heap.objs.size + 1) s.heap.objs.size 0 .none → g.IsTupleIter s.heap.objs.size l 0 → (∀ b o, s.heap.get? b = some o → g.get? b = some o) → Q (.ref (s.heap.objs.size + 1)) { s with heap := g }) :
    wpAny (model prog w) A (call (.type "enumerate") [.ref l]) Q E s := by
  refine callType_new PySem.F.called_enumerate (by decide) (PySem.F.typeCall_enumerate_1 _) (PySem.F.newCall_enumerate_1 _) (fun ob => PySem.F.args_object_init_2 ob _) PySem.F.entry_enumerate_new (meets_enum_tup l items) ⟨hL, ?_⟩
  have hz : (s.heap.push { cls := .type "tuple_iterator", data := .fields #[.ref l, .int 0 0] }).objs.size = s.heap.objs.size + 1 := Heap.size_push ..
  show _ ∧ _
  rw [hz]
  have he : IsEnum ((s.heap.push { cls := .type "tuple_iterator", data := .fields #[.ref l, .int 0 0] }).push { cls := .type "enumerate", data := .fields #[.none, .bool false, .ref s.heap.objs.size, rawInt 0, .none, .none] }) (s.heap.objs.size + 1) s.heap.objs.size 0 .none := by
    have z := Heap.get?_push_size (s.heap.push { cls := .type "tuple_iterator", data := .fields #[.ref l, .int 0 0] }) (o := { cls := .type "enumerate", data := .fields #[.none, .bool false, .ref s.heap.objs.size, rawInt 0, .none, .none] }) rfl
    rw [hz] at z
    exact z
  exact ⟨⟨_, he, rfl⟩, h _ he ⟨_, Heap.get?_push_of_some _ (Heap.get?_push_size _ rfl), rfl, rfl⟩ fun b o x => Heap.get?_push_of_some _ (Heap.get?_push_of_some _ x)⟩
theorem enum_end_tup {prog : Program} {w : World} {A : Around} {E : Value → Shared → Prop} {s : Shared} {e it t : Addr} {i : Nat} {items : Array Value} {old : Value} {Q : Option Value → Shared → Prop} (hh : A.handled = none)
    (he : IsEnum s.heap e it i old) (hit : s.heap.IsTupleIter it t i) (hl : s.heap.IsTuple t items) (hx : items.size ≤ i) (hQ : ∀ g, Heap.ExtBut it s.heap g → Q none { s with heap := g }) : wpAny (model prog w) A (pyNext (.ref e)) Q E s := by
  have h0 : s.TypeIs (.ref e) "enumerate" := ⟨_, he, rfl⟩
  unfold pyNext
  refine wpAny_bind (wpAny_attempt (wpAny_callSpecial?_slot (name := Str.ofString "__next__") h0 PySem.F.slot_enumerate_next (wpAny_call_entry PySem.F.slot_enumerate_next h0 PySem.F.entry_enumerate_next ?_ (PySem.F.args_enumerate_next_1 _))))
  show wpAny _ _ (field (.ref e) 2 >>= _) _ _ _
  have hn : items[i]? = none := Array.getElem?_eq_none hx
  refine wpAny_bind (wpAny_field he rfl (x := .ref it) rfl (wpAny_bind (wpAny_nextOf_tuple_end hh hit hl hn fun g x hg hx2 => ?_)))
  obtain ⟨o, ho, hc⟩ := hx2
  exact wpAny_bind (wpAny_isInstance (T := "StopIteration") (b := true) ⟨o, ho, hc⟩ isSubtype_stop (wpAny_pure (hQ _ hg)))
/-- the tuple at a, each item in a new pair -/
def IteT (K : PySem.W.Frag) (a : Addr) : It where
  go := fun i H => ∃ (xs : List V) (x : V), SqT K H a xs ∧ xs[i]? = some x
  yld := fun i H v H' => ∃ T x, v = .ref T ∧ H T = none ∧ H' = upd H T (.tup [.int (i : Nat), x]) ∧ ∀ xs, SqT K H a xs → xs[i]? = some x
  stop := fun i H => ∃ xs : List V, SqT K H a xs ∧ xs.length ≤ i
theorem tupIter_ne {h : Heap} {a it : Addr} {i : Nat} {items : Array Value} (h1 : h.IsTupleIter it a i) (h2 : h.IsTuple a items) : a ≠ it := fun e => by
  subst e
  obtain ⟨o, e1, c1, _⟩ := h1
  obtain ⟨o', e2, c2⟩ := h2
  have z : o = o' := Option.some.inj (e1.symm.trans e2)
  subst z
  have c3 : Value.type "tuple_iterator" = Value.type "tuple" := c1.symm.trans c2.1
  exact absurd (Value.type.inj c3) (by decide)
theorem turn_enumT {P : Program} {w : World} {K : PySem.W.Frag} {elts : List Expr} {kk : Nat} {tpos : Pos} (a e it : Addr) :
    Turn P w K (.Tuple elts kk tpos) (IteT K a) [e, it] e (fun i h => (∃ old, IsEnum h e it ((i : Nat) : Int) old) ∧ h.IsTupleIter it a i ∧ e ≠ it) where
  mem := by simp
  obj := fun i h st b hb => by
    obtain ⟨⟨old, he⟩, ⟨o, ho, hc, hd⟩, _⟩ := st
    rcases (show b = e ∨ b = it by simpa using hb) with z | z
    · rw [z]
      exact ⟨_, he, fun v q => nomatch q⟩
    · rw [z]
      refine ⟨o, ho, fun v q => ?_⟩
      rw [hd] at q
      cases q
  keep := fun i h h' ⟨⟨old, he⟩, hi, hne⟩ k => ⟨⟨old, k e (by simp) _ he⟩, hi.at fun o q => k it (by simp) o q, hne⟩
  item := by
    intro X hP hw hK hc i pins s σ H E I hf ⟨⟨old, he⟩, hit, hne⟩ ⟨xs, x, hq, hx⟩
    subst hP hw hK
    obtain ⟨its, rv, p, hz⟩ := I.tuple hq
    have p2 : s.heap.IsTuple a its.toArray := p
    obtain ⟨u, hu, ru⟩ := rv.get hx
    have hlt : i < its.toArray.size := by
      have := (List.getElem?_eq_some_iff.mp hu).1
      simpa using this
    have hai := tupIter_ne hit p2
    have hae : e ≠ a := fun z => by
      obtain ⟨o, e1, c1, _⟩ := p2
      rw [← z] at e1
      have z2 := Option.some.inj (he.symm.trans e1)
      subst z2
      exact absurd (Value.type.inj (show Value.type "enumerate" = Value.type "tuple" from c1)) (by decide)
    have hel : e < s.heap.objs.size := Heap.lt_size he
    have hil : it < s.heap.objs.size := by obtain ⟨_, q, _⟩ := hit; exact Heap.lt_size q
    refine wpAny_pyNext_enum_itemD (Draws.tuple (A := X.A.in1) (I.ok.hd hc) it a hai its.toArray) he ⟨hit, p2⟩ hlt hne (by simp [hne, hae]) fun y g tk hy ho hit2 hT hsz hk => ?_
    have ey : y = u := by
      have hy2 : its.toArray[i]? = some y := hy
      have hu2 : its.toArray[i]? = some u := by simpa using hu
      rw [hu2] at hy2
      exact (Option.some.inj hy2).symm
    subst ey
    refine ⟨_, rfl, wpAny_letOwnedTupleGo_enum (s := { s with heap := g, toks := tk + 1 }) ho fun g2 he2 sb => ?_⟩
    have hT2 : g2.get? s.heap.objs.size = some { cls := .type "tuple", data := .seq #[.int i tk, y] } := (sb.2 _ (Nat.ne_of_gt hel)).trans hT
    have new : ObjOk X.prog X.w (upd H s.heap.objs.size (.tup [.int (i : Nat), x])) g2 s.heap.objs.size (.tup [.int (i : Nat), x]) :=
      ⟨(by decide : 2 ≤ sizeLine), [.int i tk, y], .cons ⟨_, rfl⟩ (.cons ru .nil), ⟨_, hT2, rfl, _, rfl⟩⟩
    have I1 : Inv X pins σ (upd H s.heap.objs.size (.tup [.int (i : Nat), x])) { s with heap := g2, toks := tk + 1 } :=
      I.turnedNew (ch := [e, it]) (fun b ob hb q => by
        have n1 : b ≠ e := fun z => hb (by simp [z])
        have n2 : b ≠ it := fun z => hb (by simp [z])
        exact (sb.2 b n1).trans (hk b ob n1 n2 q)) hf (Nat.le_refl _) new
    refine ⟨.ref s.heap.objs.size, _, I1, rfl, ⟨_, x, rfl, I.hok.fresh (Nat.le_refl _), rfl, fun ys hy => by rw [I.tuple_inj hy hq]; exact hx⟩, ⟨⟨y, ?_⟩, hit2.1.at fun o q => (sb.2 it (Ne.symm hne)).trans q, hne⟩, fun b hb => ?_⟩
    · have e1 : ((i + 1 : Nat) : Int) = (i : Int) + 1 := by omega
      rw [e1]
      exact he2
    · have hb2 : b < s.heap.objs.size := by
        rcases (show b = e ∨ b = it by simpa using hb) with z | z
        · exact z ▸ hel
        · exact z ▸ hil
      rw [upd_ne (Nat.ne_of_lt hb2)]
      exact (hf b hb).1
  done := by
    intro X hP hw hK hc i pins s σ H E I hf ⟨⟨old, he⟩, hit, hne⟩ ⟨xs, hq, hx⟩
    subst hP hw hK
    obtain ⟨its, rv, p, hz⟩ := I.tuple hq
    have p2 : s.heap.IsTuple a its.toArray := p
    have hai := tupIter_ne hit p2
    have hl := rv.length
    obtain ⟨f0, f1, f2, f3, f4, f5⟩ := hf it (by simp)
    -- at the end the place is the size or beyond: the rule of the library asks the list's own end
    exact enum_end_tup (I.ok.hd hc) he hit p2 (by simp; omega) fun g eb => ⟨rfl, I.turned (t' := s.toks) (fun b o hb q => eb b o hb q) f0 f1 f3 f4 f5⟩
  self := fun A i s Q E ⟨⟨_, he⟩, _⟩ h => wpAny_pyIter_enum he h
def iEnumT (K : PySem.W.Frag) (ta : TA) : TI := fun σ H R => ta σ H fun vs H1 => ∃ a xs, vs = [.ref a] ∧ SqT K H1 a xs ∧ R (IteT K a) H1
theorem pi_enumT {X : Cx} {e : Expr} {ta : TA} {p pos tpos : Pos} {elts : List Expr} {kk : Nat} (hg : Gl X "enumerate") (hm : X.mg "enumerate" = none) (ha : PA X [e] ta) (hs : starEach [e] X.env = [(false, eval e X.env)] := by rfl) :
    PI X (.Tuple elts kk tpos) (.Call (.Name "enumerate" p) [e] [] pos) (iEnumT X.K ta) := by
  refine ⟨fun pins s σ H R I h => ?_⟩
  refine Call_ (ld_blt I hg hm boot_enumerate (PyProof.Rows.callWith_type1 (thn (ha.run pos pins s σ H _ I h) fun us s1 ⟨vs, H1, I1, r1, a, xs, ex, hq, q⟩ => ?_) hs rfl))
  subst ex
  cases r1 with
  | cons r rr =>
    cases rr
    cases r
    obtain ⟨its, rv, p2, hz⟩ := I1.tuple hq
    refine call_enum_tup (show s1.heap.IsTuple a its.toArray from p2) fun g he hit hk => wpAny_pyIter_enum he ?_
    refine ⟨s1.heap.objs.size + 1, [s1.heap.objs.size + 1, s1.heap.objs.size], _, _, H1, rfl, I1.kept (t' := s1.toks) hk, turn_enumT a (s1.heap.objs.size + 1) s1.heap.objs.size, ⟨⟨.none, he⟩, hit, Nat.succ_ne_self _⟩, fun b hb => ?_, q⟩
    have hle : s1.heap.objs.size ≤ b := by
      rcases (show b = s1.heap.objs.size + 1 ∨ b = s1.heap.objs.size by simpa using hb) with z | z
      · exact z ▸ Nat.le_add_right _ _
      · exact z ▸ Nat.le_refl _
    exact I1.fpOk hle (I1.hok.fresh hle)
/-- a comprehension over enumerate(t) -/
theorem lc_enumT {K : PySem.W.Frag} {a : Addr} {xs : List V} {g : TG} {tt : TT} {te : TE} {vs : List Nat} {σ : L2.St} {H1 : Hp} {D : Addr} {Qd : Hp → Prop} (Pv : Nat → Hp → Prop) (h0 : Pv 0 (upd H1 D (.lst []))) (hl : ∀ i H, i ≤ xs.length → Pv i H → SqT K H a xs)
    (hs : ∀ i x H T, xs[i]? = some x → H T = none → Pv i H → g (.ref T) (wipe σ vs) (upd H T (.tup [.int (i : Nat), x])) fun σ2 H2 => wipe σ2 vs = wipe σ vs ∧ tt σ2 H2 fun b H3 =>
      if b = true then te σ2 H3 fun y H4 => ∃ acc, H4 D = some (.lst acc) ∧ acc.length < sizeLine ∧ Pv (i + 1) (upd H4 D (.lst (acc ++ [y]))) else Pv (i + 1) H3) (hd : ∀ H, Pv xs.length H → Qd H) :
    ∃ W : Nat → Nat → Hp → Prop, (∃ m, W 0 m (upd H1 D (.lst []))) ∧ ∀ i m H, W i m H →
      ((IteT K a).stop i H ∧ Qd H) ∨ ((IteT K a).go i H ∧ ∃ Nx : Hp → Prop, (∀ H', Nx H' → ∃ m', m' < m ∧ W (i + 1) m' H') ∧ ∀ x H', (IteT K a).yld i H x H' → g x (wipe σ vs) H' fun σ2 H2 => wipe σ2 vs = wipe σ vs ∧ tt σ2 H2 fun b H3 =>
        if b = true then te σ2 H3 fun y H4 => ∃ acc, H4 D = some (.lst acc) ∧ acc.length < sizeLine ∧ Nx (upd H4 D (.lst (acc ++ [y]))) else Nx H3) := by
  refine ⟨fun i m H => m = xs.length - i ∧ i ≤ xs.length ∧ Pv i H, ⟨xs.length, by simp, Nat.zero_le _, h0⟩, fun i m H ⟨em, hi, p⟩ => ?_⟩
  subst em
  have q := hl i H hi p
  by_cases hlt : i < xs.length
  · have hx : xs[i]? = some xs[i] := List.getElem?_eq_getElem hlt
    refine .inr ⟨⟨xs, xs[i], q, hx⟩, Pv (i + 1), fun H' p' => ⟨xs.length - (i + 1), by omega, rfl, hlt, p'⟩, fun v H' ⟨T, x, e1, hT, e2, hy⟩ => ?_⟩
    subst e1 e2
    exact hs i x H T (hy xs q) hT p
  · have e : i = xs.length := by omega
    subst e
    exact .inl ⟨⟨xs, q, Nat.le_refl _⟩, hd H p⟩
/-! ### the way in which tellings stand in the heap -/
def nV (n : Nat) : V := .int (n : Int)
def rV (r : Row) : List V := r.map nV
def rK (r : Row) : List Key := r.map fun n : Nat => (Sum.inl (n : Int) : Key)
theorem rK_kV (r : Row) : (rK r).map kV = rV r := by
  unfold rK rV
  rw [List.map_map]
  rfl
theorem rV_len (r : Row) : (rV r).length = r.length := List.length_map _
theorem rV_int (r : Row) : rV r = (r.map fun n : Nat => (n : Int)).map V.int := by
  unfold rV
  rw [List.map_map]
  rfl
theorem nV_inj {a b : Nat} (h : nV a = nV b) : a = b := by
  have := V.int.inj h
  omega
theorem ofNat_inj_row {r q : Row} (h : rK r = rK q) : r = q := by
  have e : ∀ {l m : List Nat}, (l.map fun n : Nat => (Sum.inl (n : Int) : Key)) = (m.map fun n : Nat => (Sum.inl (n : Int) : Key)) → l = m := by
    intro l
    induction l with
    | nil =>
      intro m h
      cases m with
      | nil => rfl
      | cons a m => cases h
    | cons a l ih =>
      intro m h
      cases m with
      | nil => cases h
      | cons b m =>
        rw [List.map_cons, List.map_cons] at h
        injection h with h1 h2
        have h3 : (a : Int) = b := Sum.inl.inj h1
        rw [ih h2, show a = b by omega]
  exact e h
theorem rd_keep {H H' : Hp} {b : Addr} {u : HO} (h : Rd H b u) (s : ∀ o, H b = some o → H' b = some o) : Rd H' b u := by
  rcases h with h | ⟨o, h⟩
  · exact .inl (s _ h)
  · exact .inr ⟨o, s _ h⟩
/-- the rows R stand at bs -/
structure RowsAt (H : Hp) (bs : List Addr) (R : List Row) : Prop where
  len : bs.length = R.length
  at_ : ∀ (i : Nat) (b : Addr) (r : Row), bs[i]? = some b → R[i]? = some r → Rd H b (.tup (rV r))
theorem RowsAt.nil (H : Hp) : RowsAt H [] [] := ⟨rfl, fun i b r h _ => by simp at h⟩
theorem RowsAt.same {H H' : Hp} {bs : List Addr} {R : List Row} (h : RowsAt H bs R) (s : Same H H') : RowsAt H' bs R := ⟨h.len, fun i b r h1 h2 => rd_keep (h.at_ i b r h1 h2) (s b)⟩
/-- tuples stay -/
def Tups (H H' : Hp) : Prop := ∀ b xs, Rd H b (.tup xs) → ∀ o, H b = some o → H' b = some o
theorem Same.tups {H H' : Hp} (s : Same H H') : Tups H H' := fun b _ _ o h => s b o h
theorem RowsAt.tups {H H' : Hp} {bs : List Addr} {R : List Row} (h : RowsAt H bs R) (s : Tups H H') : RowsAt H' bs R := ⟨h.len, fun i b r h1 h2 => rd_keep (h.at_ i b r h1 h2) (s b _ (h.at_ i b r h1 h2))⟩
theorem Tups.rd {H H' : Hp} (s : Tups H H') {b : Addr} {xs : List V} (h : Rd H b (.tup xs)) : Rd H' b (.tup xs) := rd_keep h (s b xs h)
theorem Tups.tup {H H' : Hp} (s : Tups H H') {b : Addr} {xs : List V} (h : H b = some (.tup xs)) : H' b = some (.tup xs) := s b xs (.inl h) _ h
theorem Tups.trans {H H1 H2 : Hp} (a : Tups H H1) (b : Tups H1 H2) : Tups H H2 := fun c xs h o q => b c xs (a.rd h) o (a c xs h o q)
theorem Tups.refl (H : Hp) : Tups H H := fun _ _ _ _ h => h
theorem RowsAt.get {H : Hp} {bs : List Addr} {R : List Row} (h : RowsAt H bs R) {i : Nat} {r : Row} (e : R[i]? = some r) : ∃ b, bs[i]? = some b ∧ Rd H b (.tup (rV r)) := by
  have hi : i < bs.length := by rw [h.len]; exact (List.getElem?_eq_some_iff.mp e).1
  exact ⟨bs[i], List.getElem?_eq_getElem hi, h.at_ i _ r (List.getElem?_eq_getElem hi) e⟩
theorem RowsAt.get2 {H : Hp} {bs : List Addr} {R : List Row} (h : RowsAt H bs R) {i : Nat} {v : V} (e : (bs.map V.ref)[i]? = some v) : ∃ b r, v = .ref b ∧ bs[i]? = some b ∧ R[i]? = some r ∧ Rd H b (.tup (rV r)) := by
  rw [List.getElem?_map] at e
  obtain ⟨b, e1, e2⟩ := Option.map_eq_some_iff.mp e
  have hi : i < R.length := by rw [← h.len]; exact (List.getElem?_eq_some_iff.mp e1).1
  exact ⟨b, R[i], e2.symm, e1, List.getElem?_eq_getElem hi, h.at_ i b _ e1 (List.getElem?_eq_getElem hi)⟩
theorem RowsAt.snoc {H : Hp} {bs : List Addr} {R : List Row} (h : RowsAt H bs R) {b : Addr} {r : Row} (e : Rd H b (.tup (rV r))) : RowsAt H (bs ++ [b]) (R ++ [r]) := by
  refine ⟨by rw [List.length_append, List.length_append, h.len]; rfl, fun i c q h1 h2 => ?_⟩
  rcases Nat.lt_trichotomy i R.length with z | z | z
  · rw [List.getElem?_append_left (by rw [h.len]; exact z)] at h1
    rw [List.getElem?_append_left z] at h2
    exact h.at_ i c q h1 h2
  · subst z
    rw [← h.len, List.getElem?_append_right (Nat.le_refl _), Nat.sub_self] at h1
    rw [List.getElem?_append_right (Nat.le_refl _), Nat.sub_self] at h2
    have e1 : b = c := Option.some.inj h1
    have e2 : r = q := Option.some.inj h2
    rw [← e1, ← e2]
    exact e
  · rw [List.getElem?_eq_none (by rw [List.length_append, List.length_singleton]; omega)] at h2
    cases h2
/-- the telling (n, top, R) stands at a -/
structure TelAt (H : Hp) (a : Addr) (n top : Nat) (R : List Row) (c : Addr) (bs : List Addr) : Prop where
  t : H a = some (.tup [nV n, nV top, .ref c])
  r : H c = some (.tup (bs.map V.ref))
  rows : RowsAt H bs R
theorem TelAt.tups {H H' : Hp} {a : Addr} {n top : Nat} {R : List Row} {c : Addr} {bs : List Addr} (h : TelAt H a n top R c bs) (s : Tups H H') : TelAt H' a n top R c bs := ⟨s.tup h.t, s.tup h.r, h.rows.tups s⟩
theorem new_same {H : Hp} {p : Addr} (h : H p = none) (o : HO) : Same H (upd H p o) := fun b u q => by rw [upd_ne (ne_of_none q h)]; exact q
/-- no tuple, read or known -/
def NoTup (u : HO) : Prop := ∀ xs, u ≠ .tup xs ∧ ∀ o, u ≠ .frz o (.tup xs)
theorem rd_ne {H : Hp} {b l : Addr} {xs : List V} {u : HO} (q : Rd H b (.tup xs)) (h : H l = some u) (hn : NoTup u) : b ≠ l := fun e => by
  subst e
  rcases q with q | ⟨o, q⟩
  · rw [h] at q
    exact (hn xs).1 (Option.some.inj q)
  · rw [h] at q
    exact (hn xs).2 o (Option.some.inj q)
/-- what is written at l is no tuple: tuples stay -/
theorem upd_tups {H : Hp} {l : Addr} {o u : HO} (h : H l = some u) (hn : NoTup u) : Tups H (upd H l o) := fun b xs q v hv => by
  rw [upd_ne (rd_ne q h hn)]
  exact hv
theorem NoTup.lst (xs : List V) : NoTup (.lst xs) := fun _ => ⟨(fun z => nomatch z), (fun _ z => nomatch z)⟩
theorem NoTup.dT (xs : List (List Key × V)) : NoTup (.dT xs) := fun _ => ⟨(fun z => nomatch z), (fun _ z => nomatch z)⟩
theorem NoTup.dK (xs : List (Key × V)) : NoTup (.dK xs) := fun _ => ⟨(fun z => nomatch z), (fun _ z => nomatch z)⟩
/-- all but what stands at l stays -/
def But (l : Addr) (H H' : Hp) : Prop := ∀ b o, H b = some o → b ≠ l → H' b = some o
theorem But.of_same {l : Addr} {H H' : Hp} (s : Same H H') : But l H H' := fun b o h _ => s b o h
theorem But.trans {l : Addr} {H H1 H2 : Hp} (a : But l H H1) (b : But l H1 H2) : But l H H2 := fun c o h n => b c o (a c o h n) n
theorem But.upd {l : Addr} {H H' : Hp} (s : But l H H') (o : HO) : But l H (upd H' l o) := fun b u h n => by rw [upd_ne n]; exact s b u h n
theorem But.refl (l : Addr) (H : Hp) : But l H H := fun _ _ h _ => h
theorem But.tups {l : Addr} {H H' : Hp} {u : HO} (s : But l H H') (h : H l = some u) (hn : NoTup u) : Tups H H' := fun b xs q v hv => s b v hv (rd_ne q h hn)
theorem But.none {l : Addr} {H H' : Hp} (s : But l H H') {p : Addr} (hp : p ≠ l) (h : H' p = Option.none) : H p = Option.none := by
  cases q : H p with
  | none => rfl
  | some o =>
    rw [s p o q hp] at h
    cases h
theorem small_line {n : Nat} (h : n ≤ 5592410) : n < sizeLine := by
  rw [sizeLine_eq]
  omega
theorem small_line2 {n : Nat} (h : n ≤ 5592410) : n ≤ sizeLine := Nat.le_of_lt (small_line h)
/-! ### calls -/
section
variable {P : Program} {w : World} {K : PySem.W.Frag} {mg : Str → Option Value} {base : Heap}
/-- the global name x is a def that keeps the promise sp -/
def Cal (P : Program) (w : World) (K : PySem.W.Frag) (mg : Str → Option Value) (base : Heap) (k : Nat) (x : Str) (ps : List Str) (sp : Sp) : Prop :=
  ∃ f fd, FnOk P w K mg base CX0 k f fd ps sp ∧ mg x = some (.ref f) ∧ PySem.W.keepIn K (.ref f) = true ∧ Binds K fd ps []
/-- the method m of the class C -/
def MCal (P : Program) (w : World) (K : PySem.W.Frag) (mg : Str → Option Value) (base : Heap) (k : Nat) (C : Addr) (m : Str) (ps : List Str) (sp : Sp) : Prop :=
  ∃ f fd, FnOk P w K mg base CX0 k f fd ps sp ∧ Meth K C m f ∧ Binds K fd ps []
theorem okD {x q : Str} {st : Stmt} {f : Addr} {fd : FuncData} {N ps : List Str} {k : Nat} {sp : Sp} (F : FnP K x q st f fd) (S : FnScope N ps (defScope st)) (len : ∀ vs H Q E, sp vs H Q E → vs.length = ps.length)
    (hb : ∀ (cdv : Value) (A : Around) (outer : List Env) (s : Shared) (H : Hp) (vs : List V) (Q : VK) (E : XK), Room k (A.deeper (envOfC q (defScope st) s.heap.objs.size f cdv)) → sp vs H Q E →
      ∃ t, PSs (cxOf CX0 P w K mg base N q (defScope st) f cdv A outer s H E).nox (defBody st) t ∧ t { nx := fun _ H' => Q .non H', rt := Q } (start N vs) H) : FnOk P w K mg base CX0 (k + 1) f fd ps sp :=
  F.ok S len fun cdv A outer s H vs Q E hr h => by
    obtain ⟨t, a, b⟩ := hb cdv A outer s H vs Q E hr h
    exact ⟨t, a.nox, b⟩
end
section
variable {P : Program} {w : World} {K : PySem.W.Frag} {mg : Str → Option Value} {base : Heap}
/-! ### floors -/
def spWhole : Sp := fun vs H Q _ => ∃ i : Int, vs = [.int i] ∧ Q (.bl true) H
theorem ok_whole {f : Addr} {fd : FuncData} (F : FnP K "is_whole" "is_whole" sIsWhole f fd) (m1 : mg "isinstance" = none) (m2 : mg "int" = none) (m3 : mg "bool" = none) : FnOk P w K mg base CX0 1 f fd ["thing"] spWhole := by
  refine okD F scIsWhole (fun vs H Q E h => ?_) (fun cdv A outer s H vs Q E hr h => ?_)
  · obtain ⟨i, rfl, _⟩ := h
    rfl
  obtain ⟨i, rfl, k⟩ := h
  refine ⟨_, pss_one (ps_ret (pe_and (pe_callB call_isi (by rfl) m1 (by decide +kernel) (pa_cons (pv 0) (pa_cons (pe_bltn (v := .ty "int") (by rfl) m2 (by decide +kernel) rfl) pa_nil)))
    (pe_one (pe_not (pe_callB call_isi (by rfl) m1 (by decide +kernel) (pa_cons (pv 0) (pa_cons (pe_bltn (v := .ty "bool") (by rfl) m3 (by decide +kernel) rfl) pa_nil))))))), ?_⟩
  refine ⟨_, rfl, _, _, _, _, true, rfl, .ty "int", .base (.int i), kit_ty (by decide +kernel), true, rfl, iteT ?_⟩
  exact ⟨_, rfl, _, _, _, _, false, rfl, .ty "bool", .base (.int i), kit_ty (by decide +kernel), false, rfl, k⟩
def spSize : Sp := fun vs H Q _ => ∃ i : Int, vs = [.int i] ∧ 0 ≤ i ∧ i ≤ 12 ∧ Q (.bl true) H
theorem ok_size {f : Addr} {fd : FuncData} (F : FnP K "is_size" "is_size" sIsSize f fd) (cW : Cal P w K mg base 1 "is_whole" ["thing"] spWhole) (mM : ∃ t, mg "MOST_SIZE" = some (.int 12 t)) : FnOk P w K mg base CX0 2 f fd ["thing"] spSize := by
  obtain ⟨fW, dW, GW, gW, kW, bW⟩ := cW
  obtain ⟨tM, gM⟩ := mM
  refine okD F scIsSize (fun vs H Q E h => ?_) (fun cdv A outer s H vs Q E hr h => ?_)
  · obtain ⟨i, rfl, _⟩ := h
    rfl
  obtain ⟨i, rfl, h1, h2, k⟩ := h
  refine ⟨_, pss_one (ps_ret (pe_and (pe_call GW hr rfl gW kW bW .nil pass0 (pa_cons (pv 0) pa_nil)) (pe_one (pe_chain op_le op_le pe_int (pv 0) (pe_glob (v := .int 12) (by rfl) gM ⟨tM, rfl⟩))))), ?_⟩
  refine ⟨_, rfl, i, rfl, true, rfl, iteT ⟨_, rfl, _, _, rfl, rfl, _, rfl, ?_⟩⟩
  rw [decide_eq_true h1]
  refine iteT ⟨_, _, rfl, rfl, ?_⟩
  show Q (.bl (decide (i ≤ 12))) H
  rw [decide_eq_true h2]
  exact k
def spWant : Sp := fun vs H Q _ => ∃ i : Int, vs = [.int i] ∧ 0 ≤ i ∧ i ≤ 12 ∧ Q .non H
theorem ok_want {f : Addr} {fd : FuncData} (F : FnP K "want_size" "want_size" sWantSize f fd) (cS : Cal P w K mg base 2 "is_size" ["thing"] spSize) : FnOk P w K mg base CX0 3 f fd ["n"] spWant := by
  obtain ⟨fW, dW, GW, gW, kW, bW⟩ := cS
  refine okD F scWantSize (fun vs H Q E h => ?_) (fun cdv A outer s H vs Q E hr h => ?_)
  · obtain ⟨i, rfl, _⟩ := h
    rfl
  obtain ⟨i, rfl, h1, h2, k⟩ := h
  refine ⟨_, pss_one (ps_if (pt_not (pt_val (pe_call GW hr rfl gW kW bW .nil pass0 (pa_cons (pv 0) pa_nil)))) pss_never pss_nil), ?_⟩
  exact ⟨_, rfl, i, rfl, h1, h2, true, rfl, iteF k⟩
/-! ### Rows -/
def dkv (k : Nat) : List Row → List (List Key × V)
  | [] => []
  | r :: R => (rK r, nV (k + 2)) :: dkv (k + 1) R
theorem dkv_len : ∀ (k : Nat) (R : List Row), (dkv k R).length = R.length
  | _, [] => rfl
  | k, r :: R => congrArg Nat.succ (dkv_len (k + 1) R)
theorem dkv_snoc (q : Row) : ∀ (k : Nat) (R : List Row), dkv k (R ++ [q]) = dkv k R ++ [(rK q, nV (k + R.length + 2))]
  | k, [] => rfl
  | k, r :: R => by
    show (rK r, nV (k + 2)) :: dkv (k + 1) (R ++ [q]) = (rK r, nV (k + 2)) :: (dkv (k + 1) R ++ [(rK q, nV (k + (R.length + 1) + 2))])
    rw [dkv_snoc q (k + 1) R, show k + 1 + R.length + 2 = k + (R.length + 1) + 2 by omega]
theorem dkv_val (q : Row) : ∀ (k : Nat) (R : List Row), valV (dkv k R) (rK q) = if q ∈ R then some (nV (k + R.idxOf q + 2)) else none
  | k, [] => by
    rw [if_neg (by simp)]
    rfl
  | k, r :: R => by
    show valV ((rK r, nV (k + 2)) :: dkv (k + 1) R) (rK q) = _
    by_cases e : r = q
    · subst e
      rw [valV_pos rfl, if_pos (by simp), List.idxOf_cons_self]
      try rfl
    · rw [valV_neg (fun z => e (ofNat_inj_row z)), dkv_val q (k + 1) R]
      by_cases hm : q ∈ R
      · rw [if_pos hm, if_pos (List.mem_cons_of_mem _ hm), List.idxOf_cons, beq_eq_false_iff_ne.mpr e]
        show some (nV (k + 1 + R.idxOf q + 2)) = some (nV (k + (R.idxOf q + 1) + 2))
        rw [show k + 1 + R.idxOf q + 2 = k + (R.idxOf q + 1) + 2 by omega]
      · rw [if_neg hm, if_neg (fun z => by
          rcases List.mem_cons.mp z with z | z
          · exact e z.symm
          · exact hm z)]
/-- the attributes of an instance of Rows -/
theorem rn : ¬ (("rows" : Str) = "numbers") := by decide +kernel
def rf (l d : Addr) : List (Str × V) := putF "numbers" (.ref d) (putF "rows" (.ref l) [])
theorem rf_eq (l d : Addr) : rf l d = ([("rows", V.ref l), ("numbers", V.ref d)] : List (Str × V)) := by
  show (if ("rows" : Str) = "numbers" then [(("rows" : Str), V.ref d)] else (("rows" : Str), V.ref l) :: putF "numbers" (V.ref d) []) = _
  rw [if_neg rn]
  try rfl
theorem rf_rows (l d : Addr) : (rf l d).lookup ("rows" : Str) = some (.ref l) := by
  unfold rf
  rw [lookup_putF, if_neg rn, lookup_putF, if_pos rfl]
theorem rf_numbers (l d : Addr) : (rf l d).lookup ("numbers" : Str) = some (.ref d) := by
  unfold rf
  rw [lookup_putF, if_pos rfl]
theorem rf_no (l d : Addr) {m : Str} (h1 : ¬ m = "numbers") (h2 : ¬ m = "rows") : (rf l d).lookup m = none := by
  unfold rf
  rw [lookup_putF, if_neg h1, lookup_putF, if_neg h2]
  try rfl
structure Kr (K : PySem.W.Frag) (mg : Str → Option Value) (C : Addr) : Prop where
  cl : Cls K C
  nR : NoAttr K C "rows"
  nN : NoAttr K C "numbers"
  mgC : mg "Rows" = some (.ref C)
/-- an instance of Rows at p, its list at l, its dict at d, the rows R at bs -/
structure RoAt (C : Addr) (H : Hp) (p dx l d : Addr) (bs : List Addr) (R : List Row) : Prop where
  ob : H p = some (.ins C dx (rf l d))
  ls : H l = some (.lst (bs.map V.ref))
  dc : H d = some (.dT (dkv 0 R))
  rows : RowsAt H bs R
/-- only what stands at l and d may be another -/
def But2 (l d : Addr) (H H' : Hp) : Prop := ∀ b o, H b = some o → b ≠ l → b ≠ d → H' b = some o
theorem But2.of_same {l d : Addr} {H H' : Hp} (s : Same H H') : But2 l d H H' := fun b o h _ _ => s b o h
theorem But2.trans {l d : Addr} {H H1 H2 : Hp} (a : But2 l d H H1) (b : But2 l d H1 H2) : But2 l d H H2 := fun c o h n m => b c o (a c o h n m) n m
theorem But2.refl (l d : Addr) (H : Hp) : But2 l d H H := fun _ _ h _ _ => h
theorem RoAt.same {C : Addr} {H H' : Hp} {p dx l d : Addr} {bs : List Addr} {R : List Row} (h : RoAt C H p dx l d bs R) (s : Same H H') : RoAt C H' p dx l d bs R :=
  ⟨s _ _ h.ob, s _ _ h.ls, s _ _ h.dc, h.rows.same s⟩
theorem RoAt.but {C : Addr} {H H' : Hp} {p dx l d f : Addr} {bs : List Addr} {R : List Row} {u : HO} (h : RoAt C H p dx l d bs R) (s : But f H H') (hf : H f = some u) (n1 : u ≠ .ins C dx (rf l d)) (n2 : ∀ xs, u ≠ .lst xs) (n3 : ∀ xs, u ≠ .dT xs) (n4 : NoTup u) : RoAt C H' p dx l d bs R :=
  ⟨s _ _ h.ob (ne_of h.ob hf (Ne.symm n1)), s _ _ h.ls (ne_of h.ls hf (Ne.symm (n2 _))), s _ _ h.dc (ne_of h.dc hf (Ne.symm (n3 _))), h.rows.tups (s.tups hf n4)⟩
theorem RoAt.tups {C : Addr} {H H' : Hp} {p dx l d : Addr} {bs : List Addr} {R : List Row} (h : RoAt C H p dx l d bs R) (s : But2 l d H H') : Tups H H' := fun b xs q v hv =>
  s b v hv (rd_ne q h.ls (.lst _)) (rd_ne q h.dc (.dT _))
def spInit (C : Addr) : Sp := fun vs H Q _ => ∃ (p dx : Addr), vs = [.ref p] ∧ H p = some (.ins C dx []) ∧ ∀ (l d : Addr) (H' : Hp), H l = none → H d = none → RoAt C H' p dx l d [] [] → (∀ b o, H b = some o → b ≠ p → H' b = some o) → Q .non H'
theorem ok_init {f C : Addr} {fd : FuncData} (F : FnP K "__init__" "Rows.__init__" sRInit f fd) (T : Kr K mg C) : FnOk P w K mg base CX0 1 f fd ["self"] (spInit C) := by
  refine okD F scRInit (fun vs H Q E h => ?_) (fun cdv A outer s H vs Q E hr h => ?_)
  · obtain ⟨p, dx, rfl, _⟩ := h
    rfl
  obtain ⟨p, dx, rfl, hp, k⟩ := h
  refine ⟨_, pss_cons (ps_fld (pv 0) (pe_lst pa_nil) rfl) (pss_one (ps_fld (pv 0) pe_dnewT rfl)), ?_⟩
  refine ⟨(by decide : 0 ≤ sizeLine), fun l hl => ?_⟩
  have npl : p ≠ l := ne_of_none hp hl
  refine ⟨_, rfl, p, C, dx, [], rfl, (by rw [upd_ne npl]; exact hp), T.cl, T.nR, (by decide : 0 < 1000), fun d hd => ?_⟩
  have hd1 : H d = none := by
    by_cases e : d = p
    · subst e
      rw [upd_same] at hd
      cases hd
    · rw [upd_ne e] at hd
      exact (new_same hl _).free hd
  have npd : p ≠ d := ne_of_none hp hd1
  have nld : l ≠ d := fun e => by
    subst e
    rw [upd_ne npl.symm, upd_same] at hd
    cases hd
  refine ⟨_, rfl, p, C, dx, _, rfl, (by rw [upd_ne npd, upd_same]), T.cl, T.nN, (by show 1 < 1000; decide), ?_⟩
  refine k l d _ hl hd1 ⟨upd_same, ?_, ?_, RowsAt.nil _⟩ fun b o e hb => ?_
  · rw [upd_ne npl.symm, upd_ne nld, upd_ne npl.symm, upd_same]
    try rfl
  · rw [upd_ne npd.symm, upd_same]
    try rfl
  · rw [upd_ne hb, upd_ne (ne_of_none e hd1), upd_ne hb, upd_ne (ne_of_none e hl)]
    exact e
end
/-! ### data: rows, tellings -/
def iD (r : Row) : List PyData := r.map fun n : Nat => PyData.int (n : Int)
def rD (r : Row) : PyData := .tuple (iD r)
def tD (n top : Nat) (R : List Row) : PyData := .tuple [.int (n : Int), .int (top : Int), .tuple (R.map rD)]
theorem iD_lay : ∀ r : Row, PyData.canLayAll0 (iD r) = true
  | [] => rfl
  | n :: r => by
    have h := iD_lay r
    show (PyData.canLay0 (.int (n : Int)) && PyData.canLayAll0 (iD r)) = true
    rw [h]
    rfl
theorem iD_depth : ∀ r : Row, PyData.depthAll (iD r) = 0
  | [] => rfl
  | n :: r => by
    have h := iD_depth r
    show max (PyData.depth (.int (n : Int))) (PyData.depthAll (iD r)) = 0
    rw [h]
    rfl
theorem iD_eqv : ∀ r q : Row, PyData.eqvAll (iD r) (iD q) = decide (r = q)
  | [], [] => rfl
  | [], _ :: _ => rfl
  | _ :: _, [] => rfl
  | a :: r, b :: q => by
    have h := iD_eqv r q
    show (((a : Int) == (b : Int)) && PyData.eqvAll (iD r) (iD q)) = _
    rw [h]
    by_cases e : a = b
    · subst e
      rw [beq_self_eq_true, Bool.true_and]
      exact decide_eq_decide.mpr ⟨fun z => by rw [z], fun z => (List.cons.inj z).2⟩
    · rw [beq_eq_false_iff_ne.mpr (show (a : Int) ≠ (b : Int) by omega), Bool.false_and]
      exact (decide_eq_false fun z => e (List.cons.inj z).1).symm
theorem rD_eqv (r q : Row) : PyData.eqv (rD r) (rD q) = decide (r = q) := iD_eqv r q
theorem rDs_eqv : ∀ R S : List Row, PyData.eqvAll (R.map rD) (S.map rD) = decide (R = S)
  | [], [] => rfl
  | [], _ :: _ => rfl
  | _ :: _, [] => rfl
  | a :: R, b :: S => by
    have h := rDs_eqv R S
    show (PyData.eqv (rD a) (rD b) && PyData.eqvAll (R.map rD) (S.map rD)) = _
    rw [h, rD_eqv]
    by_cases e : a = b
    · subst e
      rw [decide_eq_true rfl, Bool.true_and]
      exact decide_eq_decide.mpr ⟨fun z => by rw [z], fun z => (List.cons.inj z).2⟩
    · rw [decide_eq_false e, Bool.false_and]
      exact (decide_eq_false fun z => e (List.cons.inj z).1).symm
theorem tD_eqv (n top n' top' : Nat) (R R' : List Row) : PyData.eqv (tD n top R) (tD n' top' R') = (decide (n = n') && (decide (top = top') && decide (R = R'))) := by
  show (((n : Int) == (n' : Int)) && (((top : Int) == (top' : Int)) && (PyData.eqvAll (R.map rD) (R'.map rD) && true))) = _
  have hn : ∀ a b : Nat, ((a : Int) == (b : Int)) = decide (a = b) := fun a b => by
    by_cases e : a = b
    · rw [e, beq_self_eq_true, decide_eq_true rfl]
    · rw [decide_eq_false e, beq_eq_false_iff_ne.mpr (show (a : Int) ≠ (b : Int) by omega)]
  rw [hn, hn, rDs_eqv, Bool.and_true]
theorem rDs_lay : ∀ R : List Row, PyData.canLayAll0 (R.map rD) = true
  | [] => rfl
  | r :: R => by
    show (PyData.canLayAll0 (iD r) && PyData.canLayAll0 (R.map rD)) = true
    rw [iD_lay, rDs_lay R]
    rfl
theorem rDs_depth : ∀ R : List Row, PyData.depthAll (R.map rD) ≤ 1
  | [] => Nat.zero_le _
  | r :: R => by
    have h := rDs_depth R
    show max (PyData.depthAll (iD r) + 1) (PyData.depthAll (R.map rD)) ≤ 1
    rw [iD_depth]
    omega
theorem shaped_of {d : PyData} (h1 : d.canLay0 = true) (h2 : d.depth ≤ 64) : SeqAt.shaped d = true := by
  show (d.canLay0 && decide (d.depth ≤ 64)) = true
  rw [h1, decide_eq_true h2]
  rfl
theorem rD_shaped (r : Row) : SeqAt.shaped (rD r) = true := shaped_of (iD_lay r) (by
  show PyData.depthAll (iD r) + 1 ≤ 64
  rw [iD_depth]
  decide)
theorem rDs_shaped (R : List Row) : SeqAt.shaped (.tuple (R.map rD)) = true := shaped_of (rDs_lay R) (by
  have h := rDs_depth R
  show PyData.depthAll (R.map rD) + 1 ≤ 64
  omega)
theorem tD_shaped (n top : Nat) (R : List Row) : SeqAt.shaped (tD n top R) = true := shaped_of (by
  show (PyData.canLay0 (.int (n : Int)) && (PyData.canLay0 (.int (top : Int)) && (PyData.canLayAll0 (R.map rD) && true))) = true
  rw [rDs_lay]
  rfl) (by
  have h := rDs_depth R
  show max 0 (max 0 (max (PyData.depthAll (R.map rD) + 1) 0)) + 1 ≤ 64
  omega)
theorem dp_ints {K : PySem.W.Frag} {H : Hp} : ∀ r : Row, DpAll K H (rV r) (iD r)
  | [] => .nil
  | n :: r => .cons (.int _) (dp_ints r)
theorem dp_row {K : PySem.W.Frag} {H : Hp} {b : Addr} {r : Row} (h : Rd H b (.tup (rV r))) : Dp K H (.ref b) (rD r) := .tup (.inl h) (dp_ints r)
theorem dp_rows {K : PySem.W.Frag} {H : Hp} : ∀ {bs : List Addr} {R : List Row}, RowsAt H bs R → DpAll K H (bs.map V.ref) (R.map rD)
  | [], [], _ => .nil
  | [], _ :: _, h => absurd h.len (by simp)
  | _ :: _, [], h => absurd h.len (by simp)
  | b :: bs, r :: R, h => .cons (dp_row (h.at_ 0 b r rfl rfl)) (dp_rows ⟨by
    have := h.len
    rw [List.length_cons, List.length_cons] at this
    omega, fun i c q h1 h2 => h.at_ (i + 1) c q h1 h2⟩)
theorem dp_tel {K : PySem.W.Frag} {H : Hp} {a : Addr} {n top : Nat} {R : List Row} {c : Addr} {bs : List Addr} (h : TelAt H a n top R c bs) : Dp K H (.ref a) (tD n top R) :=
  .tup (.inl (.inl h.t)) (.cons (.int _) (.cons (.int _) (.cons (.tup (.inl (.inl h.r)) (dp_rows h.rows)) .nil)))
theorem hu65 {A : Around} {k : Nat} (hr : Room k A) : A.units + 65 < cLine := by
  have := hr.un
  omega
/-! ### Rows.number, Rows.quarters -/
section
variable {P : Program} {w : World} {K : PySem.W.Frag} {mg : Str → Option Value} {base : Heap}
def spNumber (C : Addr) : Sp := fun vs H Q _ => ∃ (p dx l d : Addr) (bs : List Addr) (R : List Row) (b : Addr) (q : Row), vs = [.ref p, .ref b] ∧ RoAt C H p dx l d bs R ∧ R.length ≤ 5592410 ∧ q.length = 4 ∧ H b = some (.tup (rV q)) ∧
  ∀ (bs' : List Addr) (H' : Hp), RoAt C H' p dx l d bs' (numberOf R q).1 → But2 l d H H' → Q (nV (numberOf R q).2) H'
theorem plain_any (q : Row) : ([rD [0, 0, 0, 0], rD [1, 1, 1, 1]].any fun z => PyData.eqv z (rD q)) = decide (Plain q) := by
  rw [List.any_cons, List.any_cons, List.any_nil, rD_eqv, rD_eqv, Bool.or_false]
  unfold Plain
  by_cases h1 : q = [0, 0, 0, 0]
  · subst h1
    rfl
  · by_cases h2 : q = [1, 1, 1, 1]
    · subst h2
      rfl
    · rw [decide_eq_false (fun z => h1 z.symm), decide_eq_false (fun z => h2 z.symm)]
      exact (decide_eq_false fun z => z.elim h1 h2).symm
theorem four {q : Row} (h : q.length = 4) : ∃ a b c d, q = [a, b, c, d] := by
  match q, h with
  | [a, b, c, d], _ => exact ⟨a, b, c, d, rfl⟩
theorem ok_number {f C : Addr} {fd : FuncData} (F : FnP K "number" "Rows.number" sRNumber f fd) (T : Kr K mg C) (mL : mg "len" = none) : FnOk P w K mg base CX0 1 f fd ["self", "quarters"] (spNumber C) := by
  refine okD F scRNumber (fun vs H Q E h => ?_) (fun cdv A outer s H vs Q E hr h => ?_)
  · obtain ⟨p, dx, l, d, bs, R, b, q, rfl, _⟩ := h
    rfl
  obtain ⟨p, dx, l, d, bs, R, b, q, rfl, hR, hz, hq, hb, k⟩ := h
  have hu := hu_of hr
  refine ⟨_, pss_cons (ps_if (pt_cmpR (op_inT (hu65 hr)) (pv 1) (pe_tup (pa_cons (pe_tup (pa_cons pe_int (pa_cons pe_int (pa_cons pe_int (pa_cons pe_int pa_nil))))) (pa_cons (pe_tup (pa_cons pe_int (pa_cons pe_int (pa_cons pe_int (pa_cons pe_int pa_nil))))) pa_nil))) (by rfl))
      (pss_one (ps_ret (pe_ix ix_tup (pv 1) pe_int (fun _ _ => rfl)))) pss_nil)
    (pss_cons (ps_if (pt_cmp (pc_dnotin hu (pv 1) (pe_fld (pv 0) rfl)))
      (pss_cons (ps_expr (pe_bm PySem.F.plainAttrs_list PySem.F.slot_list_append PySem.F.type_list_append mt_append (pe_fld (pv 0) rfl) (pa_cons (pv 1) pa_nil)))
        (pss_one (ps_dput hu (pe_fld (pv 0) rfl) (pv 1) (pe_op op_add (pe_callB call_len_seq (by rfl) mL PySem.boot_len (pa_cons (pe_fld (pv 0) rfl) pa_nil)) pe_int) rfl))) pss_nil)
    (pss_one (ps_ret (pe_dget hu (pe_fld (pv 0) rfl) (pv 1) (fun _ _ => rfl))))), ?_⟩
  refine ⟨_, rfl, (by decide : 4 ≤ sizeLine), fun p1 n1 => ⟨(by decide : 4 ≤ sizeLine), fun p2 n2 => ⟨(by decide : 2 ≤ sizeLine), fun p3 n3 => ?_⟩⟩⟩
  have s1 : Same H (upd H p1 (.tup [.int 0, .int 0, .int 0, .int 0])) := new_same n1 _
  have s2 : Same (upd H p1 (.tup [.int 0, .int 0, .int 0, .int 0])) (upd (upd H p1 (.tup [.int 0, .int 0, .int 0, .int 0])) p2 (.tup [.int 1, .int 1, .int 1, .int 1])) := new_same n2 _
  have s3 := new_same n3 (.tup [.ref p1, .ref p2])
  have s13 := s1.trans (s2.trans s3)
  refine ⟨rD q, [rD [0, 0, 0, 0], rD [1, 1, 1, 1]], dp_row (.inl (s13 _ _ hb)), .tup (.inl (.inl upd_same)) (.cons (dp_row (r := [0, 0, 0, 0]) (.inl (s3 _ _ (s2 _ _ upd_same)))) (.cons (dp_row (r := [1, 1, 1, 1]) (.inl (s3 _ _ upd_same))) .nil)), ⟨rD_shaped q, rDs_shaped [[0, 0, 0, 0], [1, 1, 1, 1]]⟩, _, rfl, ?_⟩
  rw [plain_any]
  revert k
  generalize upd (upd (upd H p1 (.tup [.int 0, .int 0, .int 0, .int 0])) p2 (.tup [.int 1, .int 1, .int 1, .int 1])) p3 (.tup [.ref p1, .ref p2]) = G at s13
  intro k
  have hG := hR.same s13
  have hbG := s13 _ _ hb
  by_cases hp : Plain q
  · rw [decide_eq_true hp]
    obtain ⟨a1, a2, a3, a4, eq⟩ := four hq
    have en : numberOf R q = (R, a1) := by
      unfold numberOf
      rw [if_pos hp, eq] <;> rfl
    refine iteT ⟨_, rfl, b, _, 0, nV a1, rfl, rfl, SqT.of hbG, ?_, ?_⟩
    · exact atI_nat (j := 0) (by rw [eq]; rfl)
    · rw [en] at k
      exact k bs G hG (But2.of_same s13)
  · rw [decide_eq_false hp]
    refine iteF ⟨_, rfl, _, rfl, p, C, dx, _, _, rfl, hG.ob, T.cl, T.nN, rf_numbers _ _, d, _, rfl, DGet.t (k := rK q) hG.dc (by rw [rK_kV]; exact hbG), _, rfl, ?_⟩
    rw [dkv_val]
    by_cases hm : q ∈ R
    · rw [if_pos hm]
      have en : numberOf R q = (R, R.idxOf q + 2) := by
        unfold numberOf
        rw [if_neg hp, if_pos hm]
      refine iteF ⟨_, rfl, p, C, dx, _, _, rfl, hG.ob, T.cl, T.nN, rf_numbers _ _, _, rfl, d, nV (R.idxOf q + 2), rfl, ?_, ?_⟩
      · have g := DGet.t (k := rK q) hG.dc (by rw [rK_kV]; exact hbG)
        rw [dkv_val, if_pos hm, Nat.zero_add] at g
        exact g
      · rw [en] at k
        exact k bs G hG (But2.of_same s13)
    · rw [if_neg hm]
      have en : numberOf R q = (R ++ [q], R.length + 2) := by
        unfold numberOf
        rw [if_neg hp, if_neg hm]
      rw [en] at k
      have hbl : (bs.map V.ref).length = R.length := by rw [List.length_map, hG.rows.len]
      refine iteT ⟨_, rfl, p, C, dx, _, _, rfl, hG.ob, T.cl, T.nR, rf_rows _ _, .inl ⟨rfl, _, SqL.of hG.ls⟩, _, rfl, l, _, _, rfl, rfl, hG.ls, by rw [hbl]; exact small_line hz, ?_⟩
      have npl : p ≠ l := ne_of hG.ob hG.ls (fun z => nomatch z)
      have ndl : d ≠ l := ne_of hG.dc hG.ls (fun z => nomatch z)
      have nbl : b ≠ l := ne_of hbG hG.ls (fun z => nomatch z)
      have npd : p ≠ d := ne_of hG.ob hG.dc (fun z => nomatch z)
      have nbd : b ≠ d := ne_of hbG hG.dc (fun z => nomatch z)
      have o1 : upd G l (.lst (bs.map V.ref ++ [.ref b])) p = some (.ins C dx (rf l d)) := by rw [upd_ne npl]; exact hG.ob
      have o2 : upd G l (.lst (bs.map V.ref ++ [.ref b])) d = some (.dT (dkv 0 R)) := by rw [upd_ne ndl]; exact hG.dc
      have o3 : upd G l (.lst (bs.map V.ref ++ [.ref b])) b = some (.tup (rV q)) := by rw [upd_ne nbl]; exact hbG
      refine ⟨_, rfl, p, C, dx, _, _, rfl, o1, T.cl, T.nR, rf_rows _ _, l, _, rfl, .inl (SqL.of upd_same), _, _, rfl, rfl, ?_⟩
      refine ⟨_, rfl, p, C, dx, _, _, rfl, o1, T.cl, T.nN, rf_numbers _ _, _, rfl, d, _, rfl, DPut.t (k := rK q) o2 (by rw [rK_kV]; exact o3) (by rw [dkv_len]; exact small_line hz), ?_⟩
      have ev : V.int ((((bs.map V.ref ++ [V.ref b]).length : Nat) : Int) + 1) = nV (R.length + 2) := by
        rw [List.length_append, hbl]
        show V.int (((R.length + 1 : Nat) : Int) + 1) = V.int ((R.length + 2 : Nat) : Int)
        congr 1
      dsimp only
      rw [ev, putK_new _ (by rw [dkv_val, if_neg hm])]
      have ed : dkv 0 R ++ [(rK q, nV (R.length + 2))] = dkv 0 (R ++ [q]) := by
        rw [dkv_snoc, Nat.zero_add]
      rw [ed]
      have hlast : valV (dkv 0 (R ++ [q])) (rK q) = some (nV (R.length + 2)) := by
        rw [dkv_val, if_pos (by simp), Nat.zero_add, List.idxOf_append, if_neg hm, List.idxOf_cons_self]
        show some (nV (0 + R.length + 2)) = _
        rw [Nat.zero_add]
      have f1 : upd (upd G l (.lst (bs.map V.ref ++ [.ref b]))) d (.dT (dkv 0 (R ++ [q]))) p = some (.ins C dx (rf l d)) := by rw [upd_ne npd]; exact o1
      have f3 : upd (upd G l (.lst (bs.map V.ref ++ [.ref b]))) d (.dT (dkv 0 (R ++ [q]))) b = some (.tup (rV q)) := by rw [upd_ne nbd]; exact o3
      refine ⟨_, rfl, p, C, dx, _, _, rfl, f1, T.cl, T.nN, rf_numbers _ _, _, rfl, d, nV (R.length + 2), rfl, ?_, ?_⟩
      · have g := DGet.t (k := rK q) (upd_same : upd (upd G l (.lst (bs.map V.ref ++ [.ref b]))) d (.dT (dkv 0 (R ++ [q]))) d = _) (by rw [rK_kV]; exact f3)
        rw [hlast] at g
        exact g
      · have bt : But2 l d G (upd (upd G l (.lst (bs.map V.ref ++ [.ref b]))) d (.dT (dkv 0 (R ++ [q])))) := fun c o h n m => by rw [upd_ne m, upd_ne n]; exact h
        refine k (bs ++ [b]) _ ⟨f1, ?_, upd_same, (hG.rows.tups (hG.tups bt)).snoc (.inl f3)⟩ ((But2.of_same s13).trans bt)
        rw [upd_ne (fun e => ndl e.symm), upd_same, List.map_append]
        rfl
def spQuarters (C : Addr) : Sp := fun vs H Q _ => ∃ (p dx l d : Addr) (bs : List Addr) (R : List Row) (x : Nat), vs = [.ref p, nV x] ∧ RoAt C H p dx l d bs R ∧ 2 ≤ x ∧ x < R.length + 2 ∧
  ∀ b, Rd H b (.tup (rV (row R x))) → Q (.ref b) H
theorem ok_quarters {f C : Addr} {fd : FuncData} (F : FnP K "quarters" "Rows.quarters" sRQuarters f fd) (T : Kr K mg C) : FnOk P w K mg base CX0 1 f fd ["self", "number"] (spQuarters C) := by
  refine okD F scRQuarters (fun vs H Q E h => ?_) (fun cdv A outer s H vs Q E hr h => ?_)
  · obtain ⟨p, dx, l, d, bs, R, x, rfl, _⟩ := h
    rfl
  obtain ⟨p, dx, l, d, bs, R, x, rfl, hR, h2, hx, k⟩ := h
  refine ⟨_, pss_cons (ps_if (pt_cmpR op_lt (pv 1) pe_int (nomark _)) pss_never pss_nil) (pss_one (ps_ret (pe_ix ix_list (pe_fld (pv 0) rfl) (pe_op op_sub (pv 1) pe_int) (fun _ _ => rfl)))), ?_⟩
  refine ⟨_, rfl, _, _, rfl, rfl, _, rfl, ?_⟩
  rw [decide_eq_false (show ¬ ((x : Int) < 2) by omega)]
  obtain ⟨b, hb, hrd⟩ := hR.rows.get (row_get h2 hx)
  refine iteF ⟨_, rfl, p, C, dx, _, _, rfl, hR.ob, T.cl, T.nR, rf_rows _ _, _, rfl, _, _, rfl, rfl, l, _, _, .ref b, rfl, rfl, SqL.of hR.ls, at_of (j := x - 2) (by omega) (by rw [List.getElem?_map, hb]; rfl), k b hrd⟩
end
section
variable {P : Program} {w : World} {K : PySem.W.Frag} {mg : Str → Option Value} {base : Heap}
theorem nV_at {h : List Nat} {x : Nat} (hx : x < h.length) : atI (h.map nV) ((x : Nat) : Int) = some (nV (h.getD x 0)) := atI_nat (by
  rw [List.getElem?_map, List.getD_eq_getElem?_getD, List.getElem?_eq_getElem hx]
  rfl)
theorem rV_map (f : Nat → Nat) (r : Row) : rV (r.map f) = r.map fun x => nV (f x) := by
  unfold rV
  rw [List.map_map]
  rfl
theorem take_succ_map {α β : Type} (f : α → β) {l : List α} {i : Nat} {x : α} (h : l[i]? = some x) : (l.take (i + 1)).map f = (l.take i).map f ++ [f x] := by
  obtain ⟨hi, e⟩ := List.getElem?_eq_some_iff.mp h
  rw [List.take_succ_eq_append_getElem hi, List.map_append, e]
  rfl
theorem rV_get {r : Row} {i : Nat} {v : V} (h : (rV r)[i]? = some v) : ∃ x, r[i]? = some x ∧ v = nV x := by
  unfold rV at h
  rw [List.getElem?_map] at h
  obtain ⟨x, e1, e2⟩ := Option.map_eq_some_iff.mp h
  exact ⟨x, e1, e2.symm⟩
theorem take_all {α : Type} {l : List α} {n : Nat} (h : n = l.length) : l.take n = l := by
  rw [h]
  exact List.take_length
/-- the list at h holds the numbers hs -/
theorem takeR_len (R : List Row) : (takeR R).2.length = R.length + 2 := by
  refine snoc_ind (P := fun R => (takeR R).2.length = R.length + 2) rfl (fun l a ih => ?_) R
  rw [takeR_snoc]
  show ((takeR l).2 ++ [_]).length = _
  rw [List.length_append, List.length_append, ih]
  rfl
def spTake (C : Addr) : Sp := fun vs H Q _ => ∃ (p dx l d a : Addr) (n top : Nat) (c : Addr) (cs : List Addr) (rows : List Row), vs = [.ref p, .ref a] ∧ RoAt C H p dx l d [] [] ∧ TelAt H a n top rows c cs ∧ VR rows ∧ top < rows.length + 2 ∧ rows.length ≤ 5592406 ∧
  ∀ (bs : List Addr) (H' : Hp), RoAt C H' p dx l d bs (takeR rows).1 → But2 l d H H' → Q (nV (nm (takeR rows) top)) H'
theorem ok_take {f C : Addr} {fd : FuncData} (F : FnP K "take" "Rows.take" sRTake f fd) (T : Kr K mg C) (mT : mg "tuple" = none) (cN : MCal P w K mg base 1 C "number" ["self", "quarters"] (spNumber C)) : FnOk P w K mg base CX0 2 f fd ["self", "telling"] (spTake C) := by
  obtain ⟨fN, dN, GN, MN, bN⟩ := cN
  refine okD F scRTake (fun vs H Q E h => ?_) (fun cdv A outer s H vs Q E hr h => ?_)
  · obtain ⟨p, dx, l, d, a, n, top, c, cs, rows, rfl, _⟩ := h
    rfl
  obtain ⟨p, dx, l, d, a, n, top, c, cs, rows, rfl, hR, hT, hV, ht, hz, k⟩ := h
  refine ⟨_, pss_cons (ps_asg (pv 1) (pg_tup rfl (pgs_cons (pg_name (i := 2) scRTake.nd rfl (.inl rfl)) (pgs_cons (pg_name (i := 3) scRTake.nd rfl (.inl rfl)) (pgs_cons (pg_name (i := 4) scRTake.nd rfl (.inl rfl)) pgs_nil)))))
    (pss_cons (ps_set (i := 5) scRTake.nd rfl (.inr rfl) (pe_lst (pa_cons pe_int (pa_cons pe_int pa_nil))))
    (pss_cons (ps_for PassesOwn.never rfl (pi_tup (pv 4)) (pg_name (i := 6) scRTake.nd rfl (.inl rfl))
      (pss_one (ps_expr (pe_bm PySem.F.plainAttrs_list PySem.F.slot_list_append PySem.F.type_list_append mt_append (pv 5) (pa_cons
        (pe_meth (pv 0) T.cl MN GN hr bN .nil pass0 (pa_cons (pe_callTy call_tuple_of (by rfl) mT (by decide +kernel) (pa_cons
          (pe_lc (own := [("number", 7)]) (g := gName 7) (tt := tYes) (te := tOp (rIxL K) (tVar 5) (tVar 7)) rfl scRTake.nd (pi_tup (pv 6)) (blkOk_by (N := ["self", "telling", "n", "top", "rows", "here", "row", "number"]) (sc := defScope sRTake) (by decide +kernel))
            (fun _ _ _ _ _ => pg_name (i := 7) scRTake.nd rfl (Or.inl rfl)) (fun _ _ _ _ _ => pts_nil) (fun _ _ _ _ _ => pe_ix ix_list (pv 5) (pv 7) (fun _ _ => rfl))) pa_nil)) pa_nil)) pa_nil)))))
    (pss_one (ps_ret (pe_ix ix_list (pv 5) (pv 3) (fun _ _ => rfl)))))), ?_⟩
  refine ⟨_, rfl, a, _, rfl, SqT.of hT.t, rfl, _, _, rfl, _, _, rfl, _, _, rfl, rfl, (by decide : 2 ≤ sizeLine), fun e he => ?_⟩
  have s0 : Same H (upd H e (.lst [.int 0, .int 1])) := new_same he _
  refine ⟨_, rfl, c, rfl, ⟨_, SqT.of (s0 _ _ hT.r)⟩, for_tup (K := K) (a := c) (xs := cs.map V.ref)
    (fun i σ G => ∃ (v : Option V) (bs : List Addr), σ = [some (.ref p), some (.ref a), some (nV n), some (nV top), some (.ref c), some (.ref e), v, none] ∧ G e = some (.lst ((takeR (rows.take i)).2.map nV)) ∧ RoAt C G p dx l d bs (takeR (rows.take i)).1 ∧ But2 l d H G)
    ⟨none, [], rfl, upd_same, hR.same s0, But2.of_same s0⟩ (fun i σ G _ ⟨v, bs, _, _, _, hb⟩ => ?_) ?_ ?_⟩
  · exact .inl (.inl ((hR.tups hb).tup hT.r))
  · rintro i y σ G hi ⟨v, bs, rfl, hE, hRo, hb⟩
    obtain ⟨b, r, rfl, hcb, hrow, hrd0⟩ := hT.rows.get2 hi
    have hrd := (hR.tups hb).rd hrd0
    have hil : i < rows.length := (List.getElem?_eq_some_iff.mp hrow).1
    obtain ⟨hr4, hrx⟩ := hV i r hrow
    have tl := takeR_len (rows.take i)
    have til : (rows.take i).length = i := by rw [List.length_take]; omega
    refine ⟨_, rfl, .inl ⟨rfl, _, SqL.of hE⟩, _, rfl, p, dx, _, rfl, hRo.ob, rf_no _ _ (by decide +kernel) (by decide +kernel), ?_⟩
    refine ⟨_, rfl, b, rfl, ⟨_, .inl hrd⟩, fun D hD => lc_tup (K := K) (a := b) (xs := rV r)
      (fun j G1 => G1 = upd G D (.lst ((r.take j).map fun x => nV (nm (takeR (rows.take i)) x)))) ?_ (fun j G1 _ e1 => ?_) ?_ ?_⟩
    · rfl
    · rw [e1]
      exact .inl (rd_keep hrd (new_same hD _ b))
    · rintro j y G1 hy rfl
      obtain ⟨x, hx, rfl⟩ := rV_get hy
      refine ⟨rfl, _, rfl, _, rfl, e, _, _, nV (nm (takeR (rows.take i)) x), rfl, rfl, SqL.of ((new_same hD _) _ _ hE), nV_at ?_, _, upd_same, ?_, ?_⟩
      · have := hrx x (List.mem_of_getElem? hx)
        omega
      · rw [List.length_map, List.length_take]
        exact small_line (by omega)
      · rw [upd_upd]
        congr 2
        exact (take_succ_map _ hx).symm
    · rintro G1 rfl
      have e4 : (r.take (rV r).length).map (fun x => nV (nm (takeR (rows.take i)) x)) = rV (r.map (nm (takeR (rows.take i)))) := by
        have z : r.take (rV r).length = r := take_all (rV_len r)
        rw [z, rV_map]
      rw [e4]
      have s1 : Same G (upd G D (.lst (rV (r.map (nm (takeR (rows.take i))))))) := new_same hD _
      refine ⟨D, _, rfl, .inl ⟨SqL.of upd_same, fun q hq => ?_⟩⟩
      have s2 := s1.trans (new_same hq (.tup (rV (r.map (nm (takeR (rows.take i)))))))
      refine ⟨p, dx, l, d, bs, _, q, r.map (nm (takeR (rows.take i))), rfl, hRo.same s2, ?_, by rw [List.length_map]; exact hr4, upd_same, fun bs' G2 hRo2 hb2 => ?_⟩
      · have := (take_ok (rows.take i) (VR.pre (S := rows.drop i) (by rw [List.take_append_drop]; exact hV))).few
        omega
      have nle : l ≠ e := ne_of_none hR.ls he
      have nde : d ≠ e := ne_of_none hR.dc he
      have npe : p ≠ e := ne_of_none hR.ob he
      have hE2 : G2 e = some (.lst ((takeR (rows.take i)).2.map nV)) := hb2 _ _ (s2 _ _ hE) nle.symm nde.symm
      · refine ⟨e, _, _, rfl, rfl, hE2, ?_, ?_⟩
        · rw [List.length_map, tl, til]
          exact small_line (by omega)
        · have st : takeR (rows.take (i + 1)) = takeStep (takeR (rows.take i)) r := by
            obtain ⟨hi2, e5⟩ := List.getElem?_eq_some_iff.mp hrow
            rw [List.take_succ_eq_append_getElem hi2, takeR_snoc, e5]
          refine ⟨_, bs', rfl, ?_, ?_, ?_⟩
          · rw [upd_same, st]
            show some (HO.lst ((takeR (rows.take i)).2.map nV ++ [_])) = some (HO.lst (((takeR (rows.take i)).2 ++ [_]).map nV))
            rw [List.map_append]
            rfl
          · rw [st]
            exact ⟨by rw [upd_ne npe]; exact hRo2.ob, by rw [upd_ne nle]; exact hRo2.ls, by rw [upd_ne nde]; exact hRo2.dc, hRo2.rows.tups (upd_tups hE2 (.lst _))⟩
          · intro b o h n m
            rw [upd_ne (ne_of_none h he)]
            exact hb2 b o (s2 b o (hb b o h n m)) n m
  · rintro σ G ⟨v, bs, rfl, hE, hRo, hb⟩
    have z : rows.take (cs.map V.ref).length = rows := take_all (by rw [List.length_map, hT.rows.len])
    rw [z] at hE hRo
    refine ⟨_, rfl, _, rfl, e, _, _, nV (nm (takeR rows) top), rfl, rfl, SqL.of hE, nV_at (by rw [takeR_len]; exact ht), ?_⟩
    exact k bs G hRo hb
end
def fkv (k : Nat) : List Nat → List (Key × V)
  | [] => []
  | x :: F => (Sum.inl (x : Int), nV (k + 2)) :: fkv (k + 1) F
theorem fkv_len : ∀ (k : Nat) (F : List Nat), (fkv k F).length = F.length
  | _, [] => rfl
  | k, _ :: F => congrArg Nat.succ (fkv_len (k + 1) F)
theorem fkv_snoc (x : Nat) : ∀ (k : Nat) (F : List Nat), fkv k (F ++ [x]) = fkv k F ++ [(Sum.inl (x : Int), nV (k + F.length + 2))]
  | k, [] => rfl
  | k, y :: F => by
    show (Sum.inl (y : Int), nV (k + 2)) :: fkv (k + 1) (F ++ [x]) = (Sum.inl (y : Int), nV (k + 2)) :: (fkv (k + 1) F ++ [(Sum.inl (x : Int), nV (k + (F.length + 1) + 2))])
    rw [fkv_snoc x (k + 1) F, show k + 1 + F.length + 2 = k + (F.length + 1) + 2 by omega]
theorem fkv_val (x : Nat) : ∀ (k : Nat) (F : List Nat), valV (fkv k F) (Sum.inl (x : Int) : Key) = if x ∈ F then some (nV (k + F.idxOf x + 2)) else none
  | k, [] => by
    rw [if_neg (by simp)]
    rfl
  | k, y :: F => by
    show valV ((Sum.inl (y : Int), nV (k + 2)) :: fkv (k + 1) F) (Sum.inl (x : Int) : Key) = _
    by_cases e : y = x
    · subst e
      rw [valV_pos rfl, if_pos (by simp), List.idxOf_cons_self]
      try rfl
    · have e2 : ¬ (Sum.inl (y : Int) : Key) = Sum.inl (x : Int) := fun z => e (by
        have := Sum.inl.inj z
        omega)
      rw [valV_neg e2, fkv_val x (k + 1) F]
      by_cases hm : x ∈ F
      · rw [if_pos hm, if_pos (List.mem_cons_of_mem _ hm), List.idxOf_cons, beq_eq_false_iff_ne.mpr e]
        show some (nV (k + 1 + F.idxOf x + 2)) = some (nV (k + (F.idxOf x + 1) + 2))
        rw [show k + 1 + F.idxOf x + 2 = k + (F.idxOf x + 1) + 2 by omega]
      · rw [if_neg hm, if_neg (fun z => by
          rcases List.mem_cons.mp z with z | z
          · exact e z.symm
          · exact hm z)]
theorem fkv_get : ∀ (k : Nat) (F : List Nat) (i : Nat), (fkv k F)[i]? = F[i]?.map fun x => (Sum.inl (x : Int), nV (k + i + 2))
  | _, [], _ => rfl
  | k, x :: F, 0 => rfl
  | k, x :: F, i + 1 => by
    show (fkv (k + 1) F)[i]? = _
    rw [fkv_get (k + 1) F i, List.getElem?_cons_succ, show k + 1 + i + 2 = k + (i + 1) + 2 by omega]
/-- the dict of new numbers, with those of 0 and 1 -/
def newKv (F : List Nat) : List (Key × V) := fkv 0 F ++ [(Sum.inl 0, .int 0)] ++ [(Sum.inl 1, .int 1)]
theorem valV_app {κ : Type} [DecidableEq κ] (k : κ) : ∀ (l m : List (κ × V)), valV (l ++ m) k = (valV l k).or (valV m k)
  | [], m => rfl
  | p :: l, m => by
    show valV (p :: (l ++ m)) k = _
    by_cases e : p.1 = k
    · rw [valV_pos e, valV_pos e]
      rfl
    · rw [valV_neg e, valV_neg e, valV_app k l m]
theorem newKv_val {R : List Row} {F : List Nat} (g : Good R F) {x : Nat} (h : x ≤ 1 ∨ x ∈ F) : valV (newKv F) (Sum.inl (x : Int) : Key) = some (nV (newOf F x)) := by
  unfold newKv
  rw [valV_app, valV_app, fkv_val]
  unfold newOf
  by_cases c : x ≤ 1
  · have hn : x ∉ F := fun z => by
      have := (g.rg x z).1
      omega
    rw [if_neg hn, if_pos c]
    match x, c with
    | 0, _ => rfl
    | 1, _ => rfl
  · rw [if_pos (h.resolve_left c), if_neg c, Nat.zero_add]
    rfl
theorem newKv_len (F : List Nat) : (newKv F).length = F.length + 2 := by
  unfold newKv
  rw [List.length_append, List.length_append, fkv_len]
  rfl
theorem newKv_get_lt {F : List Nat} {i x : Nat} (h : F[i]? = some x) : (newKv F)[i]? = some (Sum.inl (x : Int), nV (i + 2)) := by
  have hi := (List.getElem?_eq_some_iff.mp h).1
  unfold newKv
  rw [List.append_assoc, List.getElem?_append_left (by rw [fkv_len]; exact hi), fkv_get, h, Nat.zero_add]
  rfl
theorem newKv_get_ge {F : List Nat} {i : Nat} {k : Key} {v : V} (hi : F.length ≤ i) (h : (newKv F)[i]? = some (k, v)) : ∃ x : Int, k = Sum.inl x ∧ x ≤ 1 := by
  unfold newKv at h
  rw [List.append_assoc, List.getElem?_append_right (by rw [fkv_len]; exact hi), fkv_len] at h
  match hj : i - F.length, h with
  | 0, h =>
    have e := Option.some.inj (show some ((Sum.inl 0 : Key), V.int 0) = some (k, v) from h)
    exact ⟨0, (congrArg Prod.fst e).symm, by decide⟩
  | 1, h =>
    have e := Option.some.inj (show some ((Sum.inl 1 : Key), V.int 1) = some (k, v) from h)
    exact ⟨1, (congrArg Prod.fst e).symm, by decide⟩
  | j + 2, h =>
    exact nomatch (show (none : Option (Key × V)) = some (k, v) from h)
/-- over the keys of a locked dict -/
theorem for_keys {d : Addr} {o : Obj} {kvs : List (Key × V)} {g : TG} {tb : TS} {D : Ends} {σ : L2.St} {H : Hp} (Pv : Nat → L2.St → Hp → Prop) (h0 : Pv 0 σ H) (hl : ∀ i σ H, i ≤ kvs.length → Pv i σ H → H d = some (.frz o (.dK kvs)))
    (hs : ∀ i k v σ H, kvs[i]? = some (k, v) → Pv i σ H → g (kV k) σ H fun σ2 H2 => tb { D with nx := Pv (i + 1), ct := Pv (i + 1), bk := D.nx } σ2 H2) (hd : ∀ σ H, Pv kvs.length σ H → D.nx σ H) :
    ∃ W : Nat → Nat → L2.St → Hp → Prop, (∃ m, W 0 m σ H) ∧ ∀ i m σ H, W i m σ H →
      ((Itk d o kvs).stop i H ∧ D.nx σ H) ∨ ((Itk d o kvs).go i H ∧ ∃ N : L2.St → Hp → Prop, (∀ σ' H', N σ' H' → ∃ m', m' < m ∧ W (i + 1) m' σ' H') ∧ ∀ x H', (Itk d o kvs).yld i H x H' → g x σ H' fun σ2 H2 => tb { D with nx := N, ct := N, bk := D.nx } σ2 H2) := by
  refine ⟨fun i m σ H => m = kvs.length - i ∧ i ≤ kvs.length ∧ Pv i σ H, ⟨kvs.length, by simp, Nat.zero_le _, h0⟩, fun i m σ H ⟨em, hi, p⟩ => ?_⟩
  subst em
  have q := hl i σ H hi p
  by_cases hlt : i < kvs.length
  · refine .inr ⟨⟨q, hlt⟩, Pv (i + 1), fun σ' H' p' => ⟨kvs.length - (i + 1), by omega, rfl, hlt, p'⟩, fun x H' ⟨e1, k, v, hk, e2⟩ => ?_⟩
    subst e1 e2
    exact hs i k v σ _ hk p
  · have e : i = kvs.length := by omega
    subst e
    exact .inl ⟨⟨q, Nat.le_refl _⟩, hd σ H p⟩
section
variable {P : Program} {w : World} {K : PySem.W.Frag} {mg : Str → Option Value} {base : Heap}
def spOrder (C : Addr) (fuel : Nat) : Sp := fun vs H Q _ => ∃ (p dx l d : Addr) (bs : List Addr) (R : List Row) (x : Nat) (f : Addr) (F : List Nat), vs = [.ref p, nV x, .ref f] ∧ RoAt C H p dx l d bs R ∧ H f = some (.dK (fkv 0 F)) ∧ Good R F ∧ VR R ∧
  x < R.length + 2 ∧ dep R x ≤ fuel ∧ R.length ≤ 5592406 ∧ ∀ H', H' f = some (.dK (fkv 0 (ord R fuel x F))) → But f H H' → Q .non H'
theorem ok_order {f C : Addr} {fd : FuncData} (F : FnP K "order" "Rows.order" sROrder f fd) (T : Kr K mg C) (mL : mg "len" = none) (cQ : MCal P w K mg base 1 C "quarters" ["self", "number"] (spQuarters C)) (MO : Meth K C "order" f) (bO : Binds K fd ["self", "number", "found"] []) :
    ∀ fuel, FnOk P w K mg base CX0 (fuel + 2) f fd ["self", "number", "found"] (spOrder C fuel)
  | 0 => by
    refine okD F scROrder (fun vs H Q E h => ?_) (fun cdv A outer s H vs Q E hr h => ?_)
    · obtain ⟨p, dx, l, d, bs, R, x, f, F, rfl, _⟩ := h
      rfl
    obtain ⟨p, dx, l, d, bs, R, x, f, F, rfl, hR, hf, hg, hV, hx, hd, hz, k⟩ := h
    have hx1 : x ≤ 1 := by
      rcases Nat.lt_or_ge x 2 with c | c
      · omega
      · have := dep_pos hV c hx
        omega
    refine ⟨_, pss_one (ps_if (PW.pt (pw_and (pt_cmpR op_gt (pv 1) pe_int (nomark _)) (pw_and1 (pt_cmp (pc_dnotin (hu_of hr) (pv 1) (pv 2)))))) pss_never pss_nil), ?_⟩
    refine ⟨_, rfl, _, _, rfl, rfl, _, rfl, ?_⟩
    rw [decide_eq_false (show ¬ ((1 : Int) < (x : Int)) by omega)]
    refine iteF (iteF (k H ?_ (But.refl _ _)))
    exact hf
  | fuel + 1 => by
    have GO := ok_order F T mL cQ MO bO fuel
    obtain ⟨fQ, dQ, GQ, MQ, bQ⟩ := cQ
    refine okD F scROrder (fun vs H Q E h => ?_) (fun cdv A outer s H vs Q E hr h => ?_)
    · obtain ⟨p, dx, l, d, bs, R, x, f, F, rfl, _⟩ := h
      rfl
    obtain ⟨p, dx, l, d, bs, R, x, f, F, rfl, hR, hf, hg, hV, hx, hd, hz, k⟩ := h
    have hu := hu_of hr
    refine ⟨_, pss_one (ps_if (PW.pt (pw_and (pt_cmpR op_gt (pv 1) pe_int (nomark _)) (pw_and1 (pt_cmp (pc_dnotin hu (pv 1) (pv 2))))))
      (pss_cons (ps_for PassesOwn.never rfl (pi_tup (pe_meth (pv 0) T.cl MQ GQ (hr.mono (by omega)) bQ .nil pass0 (pa_cons (pv 1) pa_nil))) (pg_name (i := 3) scROrder.nd rfl (.inl rfl))
        (pss_one (ps_expr (pe_meth (pv 0) T.cl MO GO hr bO .nil pass0 (pa_cons (pv 3) (pa_cons (pv 2) pa_nil))))))
      (pss_one (ps_dput hu (pv 2) (pv 1) (pe_op op_add (pe_callB call_lenD (by rfl) mL PySem.boot_len (pa_cons (pv 2) pa_nil)) pe_int) rfl))) pss_nil), ?_⟩
    refine ⟨_, rfl, _, _, rfl, rfl, _, rfl, ?_⟩
    by_cases hx1 : x ≤ 1
    · rw [decide_eq_false (show ¬ ((1 : Int) < (x : Int)) by omega)]
      rw [ord_skip _ _ _ _ (.inl hx1)] at k
      exact iteF (iteF (k H hf (But.refl _ _)))
    rw [decide_eq_true (show (1 : Int) < (x : Int) by omega)]
    refine iteT ⟨_, rfl, _, rfl, f, _, rfl, DGet.k (k := Sum.inl (x : Int)) hf, _, rfl, ?_⟩
    rw [fkv_val]
    by_cases hm : x ∈ F
    · rw [if_pos hm]
      rw [ord_skip _ _ _ _ (.inr hm)] at k
      exact iteF (k H hf (But.refl _ _))
    rw [if_neg hm]
    rw [ord_succ, if_neg (fun z => z.elim hx1 hm)] at k
    have h2 : 2 ≤ x := by omega
    refine iteT ⟨_, rfl, p, dx, _, rfl, hR.ob, rf_no _ _ (by decide +kernel) (by decide +kernel), _, rfl, p, dx, l, d, bs, R, x, rfl, hR, h2, hx, fun b hb => ?_⟩
    have hch : ∀ y ∈ row R x, y < R.length + 2 ∧ dep R y ≤ fuel ∧ y ≤ x - 1 := fun y hy => by
      have h3 := row_lt hV h2 hx hy
      have h4 := dep_child hV h2 hx hy
      exact ⟨by omega, by omega, by omega⟩
    have hfold : ∀ i, Good R (((row R x).take i).foldl (fun F y => ord R fuel y F) F) ∧ ∀ z ∈ ((row R x).take i).foldl (fun F y => ord R fuel y F) F, z ∈ F ∨ z ≤ x - 1 := fun i => by
      have o := (ord_fold (b := x - 1) (fun x F => ord_ok hV fuel x F) ((row R x).take i) F (fun y hy => hch y (List.mem_of_mem_take hy)) hg).1
      exact ⟨o.good, o.up⟩
    refine ⟨b, rfl, ⟨_, .inl hb⟩, for_tup (K := K) (a := b) (xs := rV (row R x))
      (fun i σ G => ∃ v : Option V, σ = [some (.ref p), some (nV x), some (.ref f), v] ∧ G f = some (.dK (fkv 0 (((row R x).take i).foldl (fun F y => ord R fuel y F) F))) ∧ But f H G)
      ⟨none, rfl, hf, But.refl _ _⟩ (fun i σ G _ ⟨v, _, _, hb2⟩ => .inl ((hb2.tups hf (.dK _)).rd hb)) ?_ ?_⟩
    · rintro i y σ G hi ⟨v, rfl, hG, hb2⟩
      obtain ⟨z, hz2, rfl⟩ := rV_get hi
      obtain ⟨hz3, e3⟩ := List.getElem?_eq_some_iff.mp hz2
      have hzm : z ∈ row R x := List.mem_of_getElem? hz2
      have hRG : RoAt C G p dx l d bs R := hR.but hb2 hf (fun z => nomatch z) (fun _ z => nomatch z) (fun _ z => nomatch z) (.dK _)
      refine ⟨_, rfl, p, dx, _, rfl, hRG.ob, rf_no _ _ (by decide +kernel) (by decide +kernel), _, rfl, _, rfl, p, dx, l, d, bs, R, z, f, _, rfl, hRG, hG, (hfold i).1, hV, (hch z hzm).1, (hch z hzm).2.1, hz, fun G2 h2 b3 => ?_⟩
      refine ⟨_, rfl, ?_, hb2.trans b3⟩
      rw [List.take_succ_eq_append_getElem hz3, List.foldl_append, e3]
      exact h2
    · rintro σ G ⟨v, rfl, hG, hb2⟩
      have z1 : (row R x).take (rV (row R x)).length = row R x := take_all (rV_len _)
      rw [z1] at hG
      have h5 := hfold (row R x).length
      rw [List.take_length] at h5
      revert k
      generalize (row R x).foldl (fun F y => ord R fuel y F) F = J at hG h5
      intro k
      have hn : x ∉ J := fun z => by
        rcases h5.2 x z with z | z
        · exact hm z
        · omega
      have hl5 := h5.1.len
      refine ⟨_, rfl, f, _, rfl, hG, _, _, rfl, rfl, _, rfl, _, rfl, f, _, rfl, DPut.k (k := Sum.inl (x : Int)) hG (by rw [fkv_len]; exact small_line (by omega)), ?_⟩
      rw [putK_new _ (by rw [fkv_val, if_neg hn])]
      refine k _ ?_ (hb2.upd _)
      rw [upd_same, fkv_snoc, fkv_len]
      congr 5
      show V.int ((J.length : Int) + 2) = V.int ((0 + J.length + 2 : Nat) : Int)
      congr 1
      omega
end
section
variable {P : Program} {w : World} {K : PySem.W.Frag} {mg : Str → Option Value} {base : Heap}
def spShape (C : Addr) : Sp := fun vs H Q _ => ∃ (p dx l d : Addr) (bs : List Addr) (R : List Row) (n top : Nat), vs = [.ref p, nV n, nV top] ∧ RoAt C H p dx l d bs R ∧ VR R ∧ top < R.length + 2 ∧ dep R top ≤ 12 ∧ R.length ≤ 5592406 ∧
  ∀ (a c : Addr) (cs : List Addr) (H' : Hp), Same H H' → TelAt H' a n (shapeOf R top).1 (shapeOf R top).2 c cs → Q (.ref a) H'
theorem row_new {R : List Row} {F : List Nat} (f : Nat → Nat) {i x : Nat} (h : F[i]? = some x) : (F.take (i + 1)).map (fun x => (row R x).map f) = (F.take i).map (fun x => (row R x).map f) ++ [(row R x).map f] := take_succ_map _ h
theorem ok_shape {f C : Addr} {fd : FuncData} (F : FnP K "shape" "Rows.shape" sRShape f fd) (T : Kr K mg C) (mT : mg "tuple" = none) (cQ : MCal P w K mg base 1 C "quarters" ["self", "number"] (spQuarters C))
    (cO : MCal P w K mg base 14 C "order" ["self", "number", "found"] (spOrder C 12)) : FnOk P w K mg base CX0 15 f fd ["self", "n", "top"] (spShape C) := by
  obtain ⟨fQ, dQ, GQ, MQ, bQ⟩ := cQ
  obtain ⟨fO, dO, GO, MO, bO⟩ := cO
  refine okD F scRShape (fun vs H Q E h => ?_) (fun cdv A outer s H vs Q E hr h => ?_)
  · obtain ⟨p, dx, l, d, bs, R, n, top, rfl, _⟩ := h
    rfl
  obtain ⟨p, dx, l, d, bs, R, n, top, rfl, hR, hV, ht, hd, hz, k⟩ := h
  have hu := hu_of hr
  refine ⟨_, pss_cons (ps_set (i := 3) scRShape.nd rfl (.inr rfl) pe_dnewK)
    (pss_cons (ps_expr (pe_meth (pv 0) T.cl MO GO hr bO .nil pass0 (pa_cons (pv 2) (pa_cons (pv 3) pa_nil))))
    (pss_cons (ps_dput hu (pv 3) pe_int pe_int rfl)
    (pss_cons (ps_dput hu (pv 3) pe_int pe_int rfl)
    (pss_cons (ps_set (i := 4) scRShape.nd rfl (.inl rfl) (pe_lst pa_nil))
    (pss_cons (ps_lock (ps_for PassesOwn.never rfl (pi_keys (pv 3)) (pg_name (i := 5) scRShape.nd rfl (.inl rfl))
      (pss_one (ps_if (pt_cmpR op_gt (pv 5) pe_int (nomark _)) (pss_one (ps_expr (pe_bm PySem.F.plainAttrs_list PySem.F.slot_list_append PySem.F.type_list_append mt_append (pv 4) (pa_cons
        (pe_callTy call_tuple_of (by rfl) mT (by decide +kernel) (pa_cons
          (pe_lc (own := [("quarter", 6)]) (g := gName 6) (tt := tYes) (te := tDGet (tVar 3) (tVar 6)) rfl scRShape.nd (pi_tup (pe_meth (pv 0) T.cl MQ GQ (hr.mono (by omega)) bQ .nil pass0 (pa_cons (pv 5) pa_nil)))
            (blkOk_by (N := ["self", "n", "top", "new", "rows", "number", "quarter"]) (sc := defScope sRShape) (by decide +kernel))
            (fun _ _ _ _ _ => pg_name (i := 6) scRShape.nd rfl (Or.inl rfl)) (fun _ _ _ _ _ => pts_nil) (fun _ _ _ _ _ => pe_dget hu (pv 3) (pv 6) (fun _ _ => rfl))) pa_nil)) pa_nil)))) pss_nil))))
    (pss_one (ps_ret (pe_tup (pa_cons (pv 1) (pa_cons (pe_dget hu (pv 3) (pv 2) (fun _ _ => rfl)) (pa_cons (pe_callTy call_tuple_of (by rfl) mT (by decide +kernel) (pa_cons (pv 4) pa_nil)) pa_nil))))))))))), ?_⟩
  intro fn hfn
  have s0 : Same H (upd H fn (.dK [])) := new_same hfn _
  refine ⟨_, rfl, p, dx, _, rfl, s0 _ _ hR.ob, rf_no _ _ (by decide +kernel) (by decide +kernel), _, rfl, _, rfl, p, dx, l, d, bs, R, top, fn, [], rfl, hR.same s0, upd_same, Good.nil R, hV, ht, hd, hz, fun H1 h1 b1 => ?_⟩
  obtain ⟨o, mt⟩ := ord_ok hV 12 top [] ht hd (Good.nil _)
  have g := o.good
  unfold shapeOf at k
  revert k
  generalize ord R 12 top [] = FF at h1 g mt
  intro k
  have hfl := g.len
  have n0 : valV (fkv 0 FF) (Sum.inl 0 : Key) = none := by
    have z := fkv_val 0 0 FF
    rw [if_neg (fun z => by have := (g.rg 0 z).1; omega)] at z
    exact z
  have n1 : valV (fkv 0 FF ++ [((Sum.inl 0 : Key), V.int 0)]) (Sum.inl 1 : Key) = none := by
    rw [valV_app]
    have z := fkv_val 1 0 FF
    rw [if_neg (fun z => by have := (g.rg 1 z).1; omega)] at z
    have z2 : valV (fkv 0 FF) (Sum.inl 1 : Key) = none := z
    rw [z2]
    rfl
  refine ⟨_, rfl, fn, _, rfl, DPut.k (k := Sum.inl 0) h1 (by rw [fkv_len]; exact small_line (by omega)), ?_⟩
  rw [putK_new _ n0]
  refine ⟨_, rfl, fn, _, rfl, DPut.k (k := Sum.inl 1) upd_same (by rw [List.length_append, fkv_len]; exact small_line (by show FF.length + 1 ≤ _; omega)), ?_⟩
  rw [putK_new _ n1, upd_upd]
  have en : fkv 0 FF ++ [((Sum.inl 0 : Key), V.int 0)] ++ [((Sum.inl 1 : Key), V.int 1)] = newKv FF := rfl
  rw [en]
  refine ⟨(by decide : 0 ≤ sizeLine), fun e he => ?_⟩
  -- what stood at the start stands still
  have sH1 : Same H (upd H1 fn (.dK (newKv FF))) := fun b u hb => by
    have nb := ne_of_none hb hfn
    rw [upd_ne nb]
    exact b1 b u (s0 b u hb) nb
  have nfe : fn ≠ e := fun z => by
    subst z
    rw [upd_same] at he
    cases he
  have hHe : H e = none := sH1.free he
  refine ⟨fn, .dK (newKv FF), by rw [upd_ne nfe, upd_same], trivial, fun od => ?_⟩
  have sL : Same H (upd (upd (upd H1 fn (.dK (newKv FF))) e (.lst [])) fn (.frz od (.dK (newKv FF)))) := fun b u hb => by
    have nb := ne_of_none hb hfn
    rw [upd_ne nb, upd_ne (ne_of_none hb hHe)]
    exact sH1 b u hb
  refine ⟨_, rfl, fn, od, rfl, .inl ⟨newKv FF, upd_same, for_keys
    (fun i σ G => ∃ (v : Option V) (cs : List Addr), σ = [some (.ref p), some (nV n), some (nV top), some (.ref fn), some (.ref e), v, none] ∧ G e = some (.lst (cs.map V.ref)) ∧ RowsAt G cs ((FF.take i).map fun x => (row R x).map (newOf FF)) ∧
      G fn = some (.frz od (.dK (newKv FF))) ∧ Same H G)
    ⟨none, [], rfl, by rw [upd_ne nfe.symm, upd_same]; rfl, RowsAt.nil _, upd_same, sL⟩ (fun i σ G _ ⟨_, _, _, _, _, h, _⟩ => h) ?_ ?_⟩⟩
  · rintro i ky vv σ G hi ⟨v, cs, rfl, hE, hrows, hf, sG⟩
    by_cases hil : i < FF.length
    · have hx : FF[i]? = some FF[i] := List.getElem?_eq_getElem hil
      have hg2 := newKv_get_lt hx
      rw [hi] at hg2
      have e1 := Option.some.inj hg2
      have ek : ky = Sum.inl (FF[i] : Int) := congrArg Prod.fst e1
      subst ek
      obtain ⟨h2, h3⟩ := g.rg _ (List.mem_of_getElem? hx)
      generalize FF[i] = x at *
      refine ⟨_, rfl, _, _, rfl, rfl, _, rfl, ?_⟩
      rw [decide_eq_true (show (1 : Int) < (x : Int) by omega)]
      have hRG := hR.same sG
      refine iteT ⟨_, rfl, .inl ⟨rfl, _, SqL.of hE⟩, _, rfl, p, dx, _, rfl, hRG.ob, rf_no _ _ (by decide +kernel) (by decide +kernel), _, rfl, p, dx, l, d, bs, R, x, rfl, hRG, h2, h3, fun b hb => ?_⟩
      refine ⟨b, rfl, ⟨_, .inl hb⟩, fun D hD => lc_tup (K := K) (a := b) (xs := rV (row R x))
        (fun j G1 => G1 = upd G D (.lst (((row R x).take j).map fun y => nV (newOf FF y)))) rfl (fun j G1 _ e1 => ?_) ?_ ?_⟩
      · rw [e1]
        exact .inl (rd_keep hb (new_same hD _ b))
      · rintro j y G1 hy rfl
        obtain ⟨z, hz2, rfl⟩ := rV_get hy
        have hzm : z ∈ row R x := List.mem_of_getElem? hz2
        refine ⟨rfl, _, rfl, _, rfl, fn, nV (newOf FF z), rfl, .inl ⟨newKv FF, Sum.inl (z : Int), .inr ⟨od, (new_same hD _) _ _ hf⟩, rfl, ?_⟩, _, upd_same, ?_, ?_⟩
        · exact (newKv_val g (g.cl x (List.mem_of_getElem? hx) z hzm)).symm
        · rw [List.length_map, List.length_take, row_len hV h2 h3]
          exact small_line (by omega)
        · rw [upd_upd]
          congr 2
          exact (take_succ_map _ hz2).symm
      · rintro G1 rfl
        have e4 : ((row R x).take (rV (row R x)).length).map (fun y => nV (newOf FF y)) = rV ((row R x).map (newOf FF)) := by
          have z : (row R x).take (rV (row R x)).length = row R x := take_all (rV_len _)
          rw [z, rV_map]
        rw [e4]
        have s1 : Same G (upd G D (.lst (rV ((row R x).map (newOf FF))))) := new_same hD _
        refine ⟨D, _, rfl, .inl ⟨SqL.of upd_same, fun q hq => ?_⟩⟩
        have s2 := s1.trans (new_same hq (.tup (rV ((row R x).map (newOf FF)))))
        have hcl : cs.length = (FF.take i).length := by rw [hrows.len, List.length_map]
        have hti : (FF.take i).length = i := by rw [List.length_take]; omega
        refine ⟨e, _, _, rfl, rfl, s2 _ _ hE, by rw [List.length_map, hcl, hti]; exact small_line (by omega), ?_⟩
        refine ⟨_, cs ++ [q], rfl, by rw [upd_same, List.map_append]; rfl, ?_, ?_, ?_⟩
        · rw [row_new _ hx]
          refine ((hrows.same s2).tups (upd_tups (s2 _ _ hE) (.lst _))).snoc (.inl ?_)
          rw [upd_ne (ne_of_none (s1 _ _ hE) hq).symm, upd_same]
        · rw [upd_ne nfe]
          exact s2 _ _ hf
        · intro b u hb2
          rw [upd_ne (ne_of_none hb2 hHe)]
          exact s2 _ _ (sG b u hb2)
    · obtain ⟨y, rfl, hy⟩ := newKv_get_ge (Nat.le_of_not_lt hil) hi
      refine ⟨_, rfl, _, _, rfl, rfl, _, rfl, ?_⟩
      rw [decide_eq_false (show ¬ (1 : Int) < y by omega)]
      have e1 : FF.take (i + 1) = FF.take i := by rw [List.take_of_length_le (by omega), List.take_of_length_le (by omega)]
      refine iteF ⟨_, cs, rfl, hE, ?_, hf, sG⟩
      rw [e1]
      exact hrows
  · rintro σ G ⟨v, cs, rfl, hE, hrows, hf, sG⟩
    have e1 : FF.take (newKv FF).length = FF := List.take_of_length_le (by rw [newKv_len]; omega)
    rw [e1] at hrows
    refine ⟨hf, ?_⟩
    have sU : Same H (upd G fn (.dK (newKv FF))) := fun b u hb => by
      rw [upd_ne (ne_of_none hb hfn)]
      exact sG b u hb
    have tU : Tups G (upd G fn (.dK (newKv FF))) := upd_tups hf (fun _ => ⟨(fun z => nomatch z), (fun _ z => nomatch z)⟩)
    have hE2 : upd G fn (.dK (newKv FF)) e = some (.lst (cs.map V.ref)) := by rw [upd_ne nfe.symm]; exact hE
    refine ⟨_, rfl, _, rfl, _, rfl, fn, nV (newOf FF top), rfl, ?_, _, rfl, e, _, rfl, .inl ⟨SqL.of hE2, fun c hc => ⟨(by decide : 3 ≤ sizeLine), fun a ha => ?_⟩⟩⟩
    · have gg := DGet.k (k := Sum.inl (top : Int)) (upd_same : upd G fn (.dK (newKv FF)) fn = _)
      rw [newKv_val g mt] at gg
      exact gg
    · have s1 : Same (upd G fn (.dK (newKv FF))) (upd (upd G fn (.dK (newKv FF))) c (.tup (cs.map V.ref))) := new_same hc _
      have s2 := new_same ha (.tup [nV n, nV (newOf FF top), .ref c])
      refine k a c cs _ (sU.trans (s1.trans s2)) ⟨upd_same, s2 _ _ upd_same, (hrows.tups tU).same (s1.trans s2)⟩
def ICal (P : Program) (w : World) (K : PySem.W.Frag) (mg : Str → Option Value) (base : Heap) (C : Addr) : Prop := ∃ f fd, Mk K C f ∧ FnOk P w K mg base CX0 1 f fd ["self"] (spInit C) ∧ Binds K fd ["self"] []
def spOne : Sp := fun vs H Q _ => ∃ (a : Addr) (n top : Nat) (c : Addr) (cs : List Addr) (rows : List Row), vs = [.ref a] ∧ TelAt H a n top rows c cs ∧ VR rows ∧ top < rows.length + 2 ∧ dep rows top ≤ 12 ∧ rows.length ≤ 5592406 ∧
  ∀ (a' c' : Addr) (cs' : List Addr) (H' : Hp), Same H H' → TelAt H' a' n (oneOf top rows).1 (oneOf top rows).2 c' cs' → Q (.ref a') H'
theorem ok_one {f C : Addr} {fd : FuncData} (F : FnP K "one_of" "one_of" sOneOf f fd) (T : Kr K mg C) (cI : ICal P w K mg base C) (cT : MCal P w K mg base 2 C "take" ["self", "telling"] (spTake C))
    (cS : MCal P w K mg base 15 C "shape" ["self", "n", "top"] (spShape C)) : FnOk P w K mg base CX0 16 f fd ["telling"] spOne := by
  obtain ⟨fI, dI, MI, GI, bI⟩ := cI
  obtain ⟨fT, dT, GT, MT, bT⟩ := cT
  obtain ⟨fS, dS, GS, MS, bS⟩ := cS
  refine okD F scOneOf (fun vs H Q E h => ?_) (fun cdv A outer s H vs Q E hr h => ?_)
  · obtain ⟨a, n, top, c, cs, rows, rfl, _⟩ := h
    rfl
  obtain ⟨a, n, top, c, cs, rows, rfl, hT, hV, ht, hd, hz, k⟩ := h
  refine ⟨_, pss_cons (ps_set (i := 1) scOneOf.nd rfl (.inl rfl) (pe_make0 MI GI (hr.mono (by omega)) rfl T.mgC bI .nil pass0))
    (pss_cons (ps_set (i := 2) scOneOf.nd rfl (.inl rfl) (pe_meth (pv 1) T.cl MT GT (hr.mono (by omega)) bT .nil pass0 (pa_cons (pv 0) pa_nil)))
    (pss_one (ps_ret (pe_meth (pv 1) T.cl MS GS hr bS .nil pass0 (pa_cons (pe_ix ix_tup (pv 0) pe_int (fun _ _ => rfl)) (pa_cons (pv 2) pa_nil)))))), ?_⟩
  intro p dx np ndx nex
  refine ⟨p, dx, rfl, upd_same, fun l d H1 hl hd1 hR b1 => ⟨rfl, ?_⟩⟩
  have s0 : Same H (upd (upd H dx (.own p)) p (.ins C dx [])) := fun b o e => by
    rw [upd_ne (ne_of_none e np), upd_ne (ne_of_none e ndx)]
    exact e
  have s1 : Same H H1 := Same.made np ndx b1
  have t1 := take_ok rows hV
  have hHl : H l = none := s0.free hl
  have hHd : H d = none := s0.free hd1
  refine ⟨_, rfl, p, dx, _, rfl, hR.ob, rf_no _ _ (by decide +kernel) (by decide +kernel), _, rfl, p, dx, l, d, a, n, top, c, cs, rows, rfl, hR, hT.tups (Same.tups s1), hV, ht, hz, fun bs H2 hR2 b2 => ?_⟩
  have s2 : Same H H2 := fun b o e => b2 b o (s1 b o e) (ne_of_none e hHl) (ne_of_none e hHd)
  refine ⟨_, rfl, p, dx, _, rfl, hR2.ob, rf_no _ _ (by decide +kernel) (by decide +kernel), _, rfl, a, _, 0, nV n, rfl, rfl, SqT.of (s2 _ _ hT.t), atI_nat (j := 0) rfl, _, rfl,
    p, dx, l, d, bs, _, n, _, rfl, hR2, t1.wf.v, t1.lt top ht, Nat.le_trans (t1.dp top ht) hd, Nat.le_trans t1.few hz, fun a' c' cs' H3 s3 hT3 => ?_⟩
  exact k a' c' cs' H3 (s2.trans s3) hT3
end
section
variable {P : Program} {w : World} {K : PySem.W.Frag} {mg : Str → Option Value} {base : Heap}
def spNumI : Sp := fun vs H Q _ => ∃ (x : Nat) (m : Int), vs = [nV x, .int m] ∧ Q (.bl (decide ((x : Int) < m))) H
theorem ok_isnumber {f : Addr} {fd : FuncData} (F : FnP K "is_number" "is_number" sIsNumber f fd) (cW : Cal P w K mg base 1 "is_whole" ["thing"] spWhole) : FnOk P w K mg base CX0 2 f fd ["thing", "most"] spNumI := by
  obtain ⟨fW, dW, GW, gW, kW, bW⟩ := cW
  refine okD F scIsNumber (fun vs H Q E h => ?_) (fun cdv A outer s H vs Q E hr h => ?_)
  · obtain ⟨x, m, rfl, _⟩ := h
    rfl
  obtain ⟨x, m, rfl, k⟩ := h
  refine ⟨_, pss_one (ps_ret (pe_and (pe_call GW hr rfl gW kW bW .nil pass0 (pa_cons (pv 0) pa_nil)) (pe_one (pe_chain op_le op_lt pe_int (pv 0) (pv 1))))), ?_⟩
  refine ⟨_, rfl, _, rfl, true, rfl, iteT ⟨_, rfl, _, _, rfl, rfl, _, rfl, ?_⟩⟩
  rw [decide_eq_true (show (0 : Int) ≤ (x : Int) by omega)]
  exact iteT ⟨_, rfl, _, _, rfl, rfl, k⟩
theorem tyx_tup {H : Hp} {b : Addr} {xs : List V} (h : Rd H b (.tup xs)) : TyX K H (.ref b) (.type "tuple") := by
  rcases h with h | ⟨o, h⟩
  · exact .base (.tup h)
  · exact .fTuple h
def spIsRow : Sp := fun vs H Q _ => ∃ (b : Addr) (i : Nat) (r : Row), vs = [.ref b, nV i] ∧ Rd H b (.tup (rV r)) ∧ r.length = 4 ∧ (∀ x ∈ r, x < i + 2) ∧ ∀ H', Same H H' → Q (.bl true) H'
theorem ok_isrow {f : Addr} {fd : FuncData} (F : FnP K "is_row" "is_row" sIsRow f fd) (m1 : mg "isinstance" = none) (m2 : mg "tuple" = none) (mL : mg "len" = none) (mA : mg "all" = none) (cN : Cal P w K mg base 2 "is_number" ["thing", "most"] spNumI) :
    FnOk P w K mg base CX0 3 f fd ["thing", "place"] spIsRow := by
  obtain ⟨fN, dN, GN, gN, kN, bN⟩ := cN
  refine okD F scIsRow (fun vs H Q E h => ?_) (fun cdv A outer s H vs Q E hr h => ?_)
  · obtain ⟨b, i, r, rfl, _⟩ := h
    rfl
  obtain ⟨b, i, r, rfl, hb, hl, hx, k⟩ := h
  refine ⟨_, pss_one (ps_ret (pe_and (pe_callB call_isi (by rfl) m1 (by decide +kernel) (pa_cons (pv 0) (pa_cons (pe_bltn (v := .ty "tuple") (by rfl) m2 (by decide +kernel) rfl) pa_nil)))
    (pe_and (pe_cmpR op_eq (pe_callB call_len_seq (by rfl) mL PySem.boot_len (pa_cons (pv 0) pa_nil)) pe_int (nomark _))
    (pe_one (pe_callB (cr_all rfl) (by rfl) mA (by decide +kernel) (pa_cons (pe_lc (own := [("one", 2)]) (g := gName 2) (tt := tYes) rfl scIsRow.nd (pi_tup (pv 0)) (blkOk_by (N := ["thing", "place", "one"]) (sc := defScope sIsRow) (by decide +kernel))
      (fun _ _ _ _ _ => pg_name (i := 2) scIsRow.nd rfl (Or.inl rfl)) (fun _ _ _ _ _ => pts_nil) (fun _ _ _ _ _ => pe_call GN hr rfl gN kN bN .nil pass0 (pa_cons (pv 2) (pa_cons (pe_op op_add (pv 1) pe_int) pa_nil)))) pa_nil)))))), ?_⟩
  refine ⟨_, rfl, _, _, _, _, true, rfl, .ty "tuple", tyx_tup hb, kit_ty (by decide +kernel), true, rfl, iteT ⟨_, rfl, b, _, rfl, .inr (.inl hb), rfl, true, ?_, iteT ?_⟩⟩
  · congr 1
    refine decide_eq_true ?_
    rw [rV_len, hl]
    rfl
  refine ⟨_, rfl, b, rfl, ⟨_, .inl hb⟩, fun D hD => lc_tup (K := K) (a := b) (xs := rV r) (fun j G => G = upd H D (.lst ((r.take j).map fun _ => V.bl true))) rfl (fun j G _ e => ?_) ?_ ?_⟩
  · rw [e]
    exact .inl (rd_keep hb (new_same hD _ b))
  · rintro j y G hy rfl
    obtain ⟨x, hx2, rfl⟩ := rV_get hy
    refine ⟨rfl, _, rfl, _, rfl, _, _, rfl, rfl, x, _, rfl, _, upd_same, ?_, ?_⟩
    · rw [List.length_map, List.length_take]
      exact small_line (by omega)
    · have h1 := hx x (List.mem_of_getElem? hx2)
      rw [decide_eq_true (show (x : Int) < (i : Int) + 2 by omega), upd_upd]
      congr 2
      exact (take_succ_map _ hx2).symm
  · rintro G rfl
    have e1 : (r.take (rV r).length).map (fun _ => V.bl true) = (r.map fun _ => true).map V.bl := by
      have z : r.take (rV r).length = r := take_all (rV_len r)
      rw [z, List.map_map]
      rfl
    rw [e1]
    refine ⟨D, _, rfl, SqL.of upd_same, ?_⟩
    have e2 : ((r.map fun _ => true).all id) = true := by
      rw [List.all_map]
      exact List.all_eq_true.mpr fun _ _ => rfl
    rw [e2]
    exact k _ (new_same hD _)
/-- the greatest of a made list of numbers -/
theorem max_nat {l : List Nat} {m : Int} (h1 : m ∈ l.map fun n : Nat => (n : Int)) (h2 : ∀ y, y ∈ (l.map fun n : Nat => (n : Int)) → y ≤ m) : m = (mx l : Nat) := by
  obtain ⟨n, hn, rfl⟩ := List.mem_map.mp h1
  congr 1
  exact mx_eq hn fun x hx => by
    have := h2 _ (List.mem_map_of_mem (f := fun n : Nat => (n : Int)) hx)
    omega
theorem nV_ints (l : List Nat) : l.map nV = (l.map fun n : Nat => (n : Int)).map V.int := by
  rw [List.map_map]
  rfl
theorem dep_take {R : List Row} {i x : Nat} (hx : x < i + 2) (hi : i ≤ R.length) : dep (R.take i) x = dep R x := by
  have e := dep_app (R.take i) (R.drop i) (x := x) (by rw [List.length_take]; omega)
  rw [List.take_append_drop] at e
  exact e.symm
theorem depths_take {R : List Row} {i : Nat} {r : Row} (h : R[i]? = some r) : depths (R.take (i + 1)) = depths (R.take i) ++ [mx (r.map (dep (R.take i))) + 1] := by
  obtain ⟨hi, e⟩ := List.getElem?_eq_some_iff.mp h
  rw [List.take_succ_eq_append_getElem hi, depths_snoc, e]
def spDepths : Sp := fun vs H Q _ => ∃ (c : Addr) (cs : List Addr) (R : List Row), vs = [.ref c] ∧ H c = some (.tup (cs.map V.ref)) ∧ RowsAt H cs R ∧ VR R ∧ R.length ≤ 5592406 ∧ ∀ (e : Addr) (H' : Hp), Same H H' → H' e = some (.lst ((depths R).map nV)) → Q (.ref e) H'
theorem ok_depths {f : Addr} {fd : FuncData} (F : FnP K "depths_of" "depths_of" sDepthsOf f fd) (mM : mg "max" = none) : FnOk P w K mg base CX0 1 f fd ["rows"] spDepths := by
  refine okD F scDepthsOf (fun vs H Q E h => ?_) (fun cdv A outer s H vs Q E hr h => ?_)
  · obtain ⟨c, cs, R, rfl, _⟩ := h
    rfl
  obtain ⟨c, cs, R, rfl, hc, hrows, hV, hz, k⟩ := h
  refine ⟨_, pss_cons (ps_set (i := 1) scDepthsOf.nd rfl (.inr rfl) (pe_lst (pa_cons pe_int (pa_cons pe_int pa_nil))))
    (pss_cons (ps_for PassesOwn.never rfl (pi_tup (pv 0)) (pg_name (i := 2) scDepthsOf.nd rfl (.inl rfl))
      (pss_one (ps_expr (pe_bm PySem.F.plainAttrs_list PySem.F.slot_list_append PySem.F.type_list_append mt_append (pv 1) (pa_cons (pe_op op_add pe_int (pe_callB (cr_max rfl) (by rfl) mM (by decide +kernel) (pa_cons
        (pe_lc (own := [("number", 3)]) (g := gName 3) (tt := tYes) (te := tOp (rIxL K) (tVar 1) (tVar 3)) rfl scDepthsOf.nd (pi_tup (pv 2)) (blkOk_by (N := ["rows", "found", "row", "number"]) (sc := defScope sDepthsOf) (by decide +kernel))
          (fun _ _ _ _ _ => pg_name (i := 3) scDepthsOf.nd rfl (Or.inl rfl)) (fun _ _ _ _ _ => pts_nil) (fun _ _ _ _ _ => pe_ix ix_list (pv 1) (pv 3) (fun _ _ => rfl))) pa_nil))) pa_nil)))))
    (pss_one (ps_ret (pv 1)))), ?_⟩
  refine ⟨(by decide : 2 ≤ sizeLine), fun e he => ?_⟩
  have s0 : Same H (upd H e (.lst [.int 0, .int 0])) := new_same he _
  refine ⟨_, rfl, c, rfl, ⟨_, SqT.of (s0 _ _ hc)⟩, for_tup (K := K) (a := c) (xs := cs.map V.ref)
    (fun i σ G => ∃ (v : Option V), σ = [some (.ref c), some (.ref e), v, none] ∧ G e = some (.lst ((depths (R.take i)).map nV)) ∧ Same H G)
    ⟨none, rfl, upd_same, s0⟩ (fun i σ G _ ⟨v, _, _, hb⟩ => SqT.of (hb _ _ hc)) ?_ ?_⟩
  · rintro i y σ G hi ⟨v, rfl, hE, hb⟩
    obtain ⟨b, r, rfl, hcb, hrow, hrd0⟩ := hrows.get2 hi
    have hrd := rd_keep hrd0 (hb b)
    have hil : i < R.length := (List.getElem?_eq_some_iff.mp hrow).1
    obtain ⟨hr4, hrx⟩ := hV i r hrow
    have dl := depths_len (R.take i)
    have til : (R.take i).length = i := by rw [List.length_take]; omega
    refine ⟨_, rfl, .inl ⟨rfl, _, SqL.of hE⟩, _, rfl, b, rfl, ⟨_, .inl hrd⟩, fun D hD => lc_tup (K := K) (a := b) (xs := rV r)
      (fun j G1 => G1 = upd G D (.lst ((r.take j).map fun x => nV (dep (R.take i) x)))) rfl (fun j G1 _ e1 => ?_) ?_ ?_⟩
    · rw [e1]
      exact .inl (rd_keep hrd (new_same hD _ b))
    · rintro j y G1 hy rfl
      obtain ⟨x, hx, rfl⟩ := rV_get hy
      refine ⟨rfl, _, rfl, _, rfl, e, _, _, nV (dep (R.take i) x), rfl, rfl, SqL.of ((new_same hD _) _ _ hE), nV_at ?_, _, upd_same, ?_, ?_⟩
      · have := hrx x (List.mem_of_getElem? hx)
        omega
      · rw [List.length_map, List.length_take]
        exact small_line (by omega)
      · rw [upd_upd]
        congr 2
        exact (take_succ_map _ hx).symm
    · rintro G1 rfl
      have e4 : (r.take (rV r).length).map (fun x => nV (dep (R.take i) x)) = ((r.map (dep (R.take i))).map fun n : Nat => (n : Int)).map V.int := by
        have z : r.take (rV r).length = r := take_all (rV_len r)
        rw [z, List.map_map, List.map_map]
        rfl
      rw [e4]
      refine ⟨D, _, rfl, SqL.of upd_same, by rw [List.length_map, List.length_map]; omega, fun m hm hle => ?_⟩
      have em := max_nat hm hle
      subst em
      have s1 := new_same (o := HO.lst (((r.map (dep (R.take i))).map fun n : Nat => (n : Int)).map V.int)) hD
      refine ⟨_, _, rfl, rfl, e, _, _, rfl, rfl, s1 _ _ hE, by rw [List.length_map, dl, til]; exact small_line (by omega), ?_⟩
      refine ⟨_, rfl, ?_, ?_⟩
      · rw [upd_same, depths_take hrow, List.map_append]
        congr 3
        show [V.int (1 + ((mx (r.map (dep (R.take i))) : Nat) : Int))] = [V.int ((mx (r.map (dep (R.take i))) + 1 : Nat) : Int)]
        congr 2
        omega
      · intro b2 o hb2
        rw [upd_ne (ne_of_none hb2 he)]
        exact s1 _ _ (hb b2 o hb2)
  · rintro σ G ⟨v, rfl, hE, hb⟩
    have z : R.take (cs.map V.ref).length = R := take_all (by rw [List.length_map, hrows.len])
    rw [z] at hE
    exact ⟨_, rfl, k e G hb hE⟩
def spIsTel : Sp := fun vs H Q _ => ∃ (a : Addr) (n top : Nat) (c : Addr) (cs : List Addr) (R : List Row), vs = [.ref a] ∧ TelAt H a n top R c cs ∧ n ≤ 12 ∧ VR R ∧ top < R.length + 2 ∧ R.length ≤ 5592406 ∧ ∀ H', Same H H' → Q (.bl (decide (dep R top ≤ n))) H'
theorem ok_istel {f : Addr} {fd : FuncData} (F : FnP K "is_telling" "is_telling" sIsTelling f fd) (m1 : mg "isinstance" = none) (m2 : mg "tuple" = none) (mL : mg "len" = none) (mA : mg "all" = none) (mE : mg "enumerate" = none)
    (cS : Cal P w K mg base 2 "is_size" ["thing"] spSize) (cR : Cal P w K mg base 3 "is_row" ["thing", "place"] spIsRow) (cN : Cal P w K mg base 2 "is_number" ["thing", "most"] spNumI) (cD : Cal P w K mg base 1 "depths_of" ["rows"] spDepths) :
    FnOk P w K mg base CX0 4 f fd ["thing"] spIsTel := by
  obtain ⟨fS, dS, GS, gS, kS, bS⟩ := cS
  obtain ⟨fR, dR, GR, gR, kR, bR⟩ := cR
  obtain ⟨fN, dN, GN, gN, kN, bN⟩ := cN
  obtain ⟨fD, dD, GD, gD, kD, bD⟩ := cD
  refine okD F scIsTelling (fun vs H Q E h => ?_) (fun cdv A outer s H vs Q E hr h => ?_)
  · obtain ⟨a, n, top, c, cs, R, rfl, _⟩ := h
    rfl
  obtain ⟨a, n, top, c, cs, R, rfl, hT, hn, hV, ht, hz, k⟩ := h
  refine ⟨_, pss_cons (ps_if (PW.pt (pw_or (pt_not (pt_val (pe_callB call_isi (by rfl) m1 (by decide +kernel) (pa_cons (pv 0) (pa_cons (pe_bltn (v := .ty "tuple") (by rfl) m2 (by decide +kernel) rfl) pa_nil)))))
      (pw_or (pt_cmpR op_ne (pe_callB call_len_seq (by rfl) mL PySem.boot_len (pa_cons (pv 0) pa_nil)) pe_int (nomark _))
      (pw_or (pt_not (pt_val (pe_call GS (hr.mono (by omega)) rfl gS kS bS .nil pass0 (pa_cons (pe_ix ix_tup (pv 0) pe_int (fun _ _ => rfl)) pa_nil))))
      (pw_or1 (pt_not (pt_val (pe_callB call_isi (by rfl) m1 (by decide +kernel) (pa_cons (pe_ix ix_tup (pv 0) pe_int (fun _ _ => rfl)) (pa_cons (pe_bltn (v := .ty "tuple") (by rfl) m2 (by decide +kernel) rfl) pa_nil)))))))))) (pss_one (ps_ret pe_bl)) pss_nil)
    (pss_cons (ps_asg (pv 0) (pg_tup rfl (pgs_cons (pg_name (i := 1) scIsTelling.nd rfl (.inl rfl)) (pgs_cons (pg_name (i := 2) scIsTelling.nd rfl (.inl rfl)) (pgs_cons (pg_name (i := 3) scIsTelling.nd rfl (.inl rfl)) pgs_nil)))))
    (pss_cons (ps_if (PW.pt (pw_or (pt_not (pt_val (pe_callB (cr_all rfl) (by rfl) mA (by decide +kernel) (pa_cons
        (pe_lc (own := [("place", 4), ("row", 5)]) (g := gTup K 2 (gCons (gName 4) (gCons (gName 5) gNil))) (tt := tYes) rfl scIsTelling.nd (pi_enumT (by rfl) mE (pa_cons (pv 3) pa_nil))
          (blkOk_by (N := ["thing", "n", "top", "rows", "place", "row"]) (sc := defScope sIsTelling) (by decide +kernel))
          (fun _ _ _ _ _ => pg_tup rfl (pgs_cons (pg_name (i := 4) scIsTelling.nd rfl (Or.inl rfl)) (pgs_cons (pg_name (i := 5) scIsTelling.nd rfl (Or.inl rfl)) pgs_nil))) (fun _ _ _ _ _ => pts_nil)
          (fun _ _ _ _ _ => pe_call GR hr rfl gR kR bR .nil pass0 (pa_cons (pv 5) (pa_cons (pv 4) pa_nil)))) pa_nil))))
        (pw_or1 (pt_not (pt_val (pe_call GN (hr.mono (by omega)) rfl gN kN bN .nil pass0 (pa_cons (pv 2) (pa_cons (pe_op op_add (pe_callB call_len_seq (by rfl) mL PySem.boot_len (pa_cons (pv 3) pa_nil)) pe_int) pa_nil)))))))) (pss_one (ps_ret pe_bl)) pss_nil)
    (pss_one (ps_ret (pe_cmpR op_le (pe_ix ix_list (pe_call GD (hr.mono (by omega)) rfl gD kD bD .nil pass0 (pa_cons (pv 3) pa_nil)) (pv 2) (fun _ _ => rfl)) (pv 1) (nomark _)))))), ?_⟩
  have rd0 : Rd H a (.tup [nV n, nV top, .ref c]) := .inl hT.t
  refine ⟨_, rfl, _, _, _, _, true, rfl, .ty "tuple", tyx_tup rd0, kit_ty (by decide +kernel), true, rfl, iteF ?_⟩
  refine ⟨_, rfl, a, _, rfl, .inr (.inl rd0), rfl, false, rfl, iteF ?_⟩
  refine ⟨_, rfl, a, _, 0, nV n, rfl, rfl, .inl rd0, atI_nat (j := 0) rfl, (n : Int), rfl, by omega, by omega, true, rfl, iteF ?_⟩
  refine ⟨_, rfl, a, _, 2, .ref c, rfl, rfl, .inl rd0, atI_nat (j := 2) rfl, _, _, _, _, true, rfl, .ty "tuple", tyx_tup (.inl hT.r), kit_ty (by decide +kernel), true, rfl, iteF ?_⟩
  refine ⟨_, rfl, a, _, rfl, .inl rd0, rfl, _, _, rfl, _, _, rfl, _, _, rfl, rfl, ?_⟩
  refine ⟨_, rfl, c, _, rfl, SqT.of hT.r, fun D hD => lc_enumT (K := K) (a := c) (xs := cs.map V.ref) (fun j G => Same H G ∧ G D = some (.lst ((R.take j).map fun _ => V.bl true))) ⟨new_same hD _, upd_same⟩ (fun j G _ h => SqT.of (h.1 _ _ hT.r)) ?_ ?_⟩
  · rintro j y G t hy htn ⟨sG, hG⟩
    obtain ⟨b, r, rfl, hcb, hrow, hrd0⟩ := hT.rows.get2 hy
    have hil : j < R.length := (List.getElem?_eq_some_iff.mp hrow).1
    obtain ⟨hr4, hrx⟩ := hV j r hrow
    have s1 := new_same htn (HO.tup [.int (j : Nat), .ref b])
    refine ⟨t, _, rfl, SqT.of upd_same, rfl, _, _, rfl, _, _, rfl, rfl, rfl, ?_⟩
    refine ⟨_, rfl, _, rfl, b, j, r, rfl, rd_keep hrd0 fun o h => s1 _ _ (sG _ _ h), hr4, hrx, fun G2 s2 => ?_⟩
    refine ⟨_, s2 _ _ (s1 _ _ hG), by rw [List.length_map, List.length_take]; exact small_line (by omega), ?_, ?_⟩
    · intro b2 o h
      rw [upd_ne (ne_of_none h hD)]
      exact s2 _ _ (s1 _ _ (sG _ _ h))
    · rw [upd_same]
      congr 2
      exact (take_succ_map _ hrow).symm
  · rintro G ⟨sG, hG⟩
    have z : R.take (cs.map V.ref).length = R := take_all (by rw [List.length_map, hT.rows.len])
    have e1 : (R.map fun _ => V.bl true) = (R.map fun _ => true).map V.bl := by rw [List.map_map]; rfl
    rw [z, e1] at hG
    have e2 : ((R.map fun _ => true).all id) = true := by
      rw [List.all_map]
      exact List.all_eq_true.mpr fun _ _ => rfl
    refine ⟨D, _, rfl, SqL.of hG, true, by rw [e2], iteF ?_⟩
    have hcs : (cs.map V.ref).length = R.length := by rw [List.length_map, hT.rows.len]
    refine ⟨_, rfl, _, rfl, c, _, rfl, .inr (SqT.of (sG _ _ hT.r)), _, _, rfl, rfl, top, _, rfl, true, ?_, iteF ?_⟩
    · congr 1
      rw [hcs]
      exact decide_eq_true (by omega)
    refine ⟨_, rfl, c, cs, R, rfl, sG _ _ hT.r, hT.rows.same sG, hV, hz, fun e G2 s2 hE => ?_⟩
    refine ⟨_, rfl, e, _, _, nV (dep R top), rfl, rfl, SqL.of hE, nV_at (by rw [depths_len]; exact ht), _, rfl, _, _, rfl, rfl, ?_⟩
    have q := k G2 (sG.trans s2)
    have ed : decide ((dep R top : Int) ≤ (n : Int)) = decide (dep R top ≤ n) := decide_eq_decide.mpr (by omega)
    rw [← ed] at q
    exact q
end
section
variable {P : Program} {w : World} {K : PySem.W.Frag} {mg : Str → Option Value} {base : Heap}
def spIsShape : Sp := fun vs H Q _ => ∃ (a : Addr) (n top : Nat) (c : Addr) (cs : List Addr) (R : List Row), vs = [.ref a] ∧ TelAt H a n top R c cs ∧ n ≤ 12 ∧ VR R ∧ top < R.length + 2 ∧ R.length ≤ 5592406 ∧
  ∀ H', Same H H' → Q (.bl (decide (dep R top ≤ n) && decide (oneOf top R = (top, R)))) H'
theorem ok_isshape {f : Addr} {fd : FuncData} (F : FnP K "is_shape" "is_shape" sIsShape f fd) (cT : Cal P w K mg base 4 "is_telling" ["thing"] spIsTel) (cO : Cal P w K mg base 16 "one_of" ["telling"] spOne) : FnOk P w K mg base CX0 17 f fd ["thing"] spIsShape := by
  obtain ⟨fT, dT, GT, gT, kT, bT⟩ := cT
  obtain ⟨fO, dO, GO, gO, kO, bO⟩ := cO
  refine okD F scIsShape (fun vs H Q E h => ?_) (fun cdv A outer s H vs Q E hr h => ?_)
  · obtain ⟨a, n, top, c, cs, R, rfl, _⟩ := h
    rfl
  obtain ⟨a, n, top, c, cs, R, rfl, hT, hn, hV, ht, hz, k⟩ := h
  refine ⟨_, pss_one (ps_ret (pe_and (pe_call GT (hr.mono (by omega)) rfl gT kT bT .nil pass0 (pa_cons (pv 0) pa_nil))
    (pe_one (pe_cmpR (op_eqD hr.units) (pe_call GO hr rfl gO kO bO .nil pass0 (pa_cons (pv 0) pa_nil)) (pv 0) (nomark _))))), ?_⟩
  refine ⟨_, rfl, a, n, top, c, cs, R, rfl, hT, hn, hV, ht, hz, fun H1 s1 => ⟨_, rfl, ?_⟩⟩
  by_cases hd : dep R top ≤ n
  · rw [decide_eq_true hd]
    refine iteT ⟨_, rfl, a, n, top, c, cs, R, rfl, hT.tups (Same.tups s1), hV, ht, Nat.le_trans hd hn, hz, fun a' c' cs' H2 s2 hT2 => ?_⟩
    refine ⟨_, rfl, _, _, dp_tel hT2, dp_tel (hT.tups (Same.tups (s1.trans s2))), tD_shaped _ _ _, tD_shaped _ _ _, ?_⟩
    have q := k H2 (s1.trans s2)
    rw [decide_eq_true hd, Bool.true_and] at q
    rw [tD_eqv, decide_eq_true rfl, Bool.true_and]
    have e : (decide ((oneOf top R).1 = top) && decide ((oneOf top R).2 = R)) = decide (oneOf top R = (top, R)) := by
      by_cases h1 : oneOf top R = (top, R)
      · rw [h1, decide_eq_true rfl, decide_eq_true rfl, decide_eq_true rfl]
        rfl
      · rw [decide_eq_false h1]
        by_cases h2 : (oneOf top R).1 = top
        · have h3 : ¬ (oneOf top R).2 = R := fun z => h1 (Prod.ext h2 z)
          rw [decide_eq_false h3, Bool.and_false]
        · rw [decide_eq_false h2, Bool.false_and]
    rw [e]
    exact q
  · have q := k H1 s1
    rw [decide_eq_false hd, Bool.false_and] at q
    rw [decide_eq_false hd]
    exact iteF q
def spPlainTel (top : Nat) : Sp := fun vs H Q _ => ∃ n : Nat, vs = [nV n] ∧ n ≤ 12 ∧ ∀ (a c : Addr) (H' : Hp), Same H H' → TelAt H' a n top [] c [] → Q (.ref a) H'
theorem tel_new {H : Hp} {c a : Addr} {n top : Nat} (hc : H c = none) (ha : upd H c (.tup []) a = none) : Same H (upd (upd H c (.tup [])) a (.tup [nV n, nV top, .ref c])) ∧ TelAt (upd (upd H c (.tup [])) a (.tup [nV n, nV top, .ref c])) a n top [] c [] := by
  have s1 := new_same hc (HO.tup [])
  have s2 := new_same ha (HO.tup [nV n, nV top, .ref c])
  exact ⟨s1.trans s2, upd_same, s2 _ _ upd_same, RowsAt.nil _⟩
theorem ok_empty {f : Addr} {fd : FuncData} (F : FnP K "empty" "empty" sEmpty f fd) (cW : Cal P w K mg base 3 "want_size" ["n"] spWant) : FnOk P w K mg base CX0 4 f fd ["n"] (spPlainTel 0) := by
  obtain ⟨fW, dW, GW, gW, kW, bW⟩ := cW
  refine okD F scEmpty (fun vs H Q E h => ?_) (fun cdv A outer s H vs Q E hr h => ?_)
  · obtain ⟨n, rfl, _⟩ := h
    rfl
  obtain ⟨n, rfl, hn, k⟩ := h
  refine ⟨_, pss_cons (ps_expr (pe_call GW hr rfl gW kW bW .nil pass0 (pa_cons (pv 0) pa_nil))) (pss_one (ps_ret (pe_tup (pa_cons (pv 0) (pa_cons pe_int (pa_cons (pe_tup pa_nil) pa_nil)))))), ?_⟩
  refine ⟨_, rfl, (n : Int), rfl, by omega, by omega, _, rfl, (by decide : 0 ≤ sizeLine), fun c hc => ⟨(by decide : 3 ≤ sizeLine), fun a ha => ?_⟩⟩
  obtain ⟨s, t⟩ := tel_new (n := n) (top := 0) hc ha
  exact k a c _ s t
theorem ok_full {f : Addr} {fd : FuncData} (F : FnP K "full" "full" sFull f fd) (cW : Cal P w K mg base 3 "want_size" ["n"] spWant) : FnOk P w K mg base CX0 4 f fd ["n"] (spPlainTel 1) := by
  obtain ⟨fW, dW, GW, gW, kW, bW⟩ := cW
  refine okD F scFull (fun vs H Q E h => ?_) (fun cdv A outer s H vs Q E hr h => ?_)
  · obtain ⟨n, rfl, _⟩ := h
    rfl
  obtain ⟨n, rfl, hn, k⟩ := h
  refine ⟨_, pss_cons (ps_expr (pe_call GW hr rfl gW kW bW .nil pass0 (pa_cons (pv 0) pa_nil))) (pss_one (ps_ret (pe_tup (pa_cons (pv 0) (pa_cons pe_int (pa_cons (pe_tup pa_nil) pa_nil)))))), ?_⟩
  refine ⟨_, rfl, (n : Int), rfl, by omega, by omega, _, rfl, (by decide : 0 ≤ sizeLine), fun c hc => ⟨(by decide : 3 ≤ sizeLine), fun a ha => ?_⟩⟩
  obtain ⟨s, t⟩ := tel_new (n := n) (top := 1) hc ha
  exact k a c _ s t
/-! ### the law's own defs -/
def spDeep : Sp := fun vs H Q _ => ∃ (a : Addr) (n top : Nat) (c : Addr) (cs : List Addr) (R : List Row), vs = [.ref a] ∧ TelAt H a n top R c cs ∧ VR R ∧ top < R.length + 2 ∧ R.length ≤ 5592406 ∧ ∀ H', Same H H' → Q (nV (dep R top)) H'
theorem ok_deep {f : Addr} {fd : FuncData} (F : FnP K "_law_deep" "_law_deep" sLDeep f fd) (mM : mg "max" = none) : FnOk P w K mg base CX0 1 f fd ["_law_telling"] spDeep := by
  refine okD F scLDeep (fun vs H Q E h => ?_) (fun cdv A outer s H vs Q E hr h => ?_)
  · obtain ⟨a, n, top, c, cs, R, rfl, _⟩ := h
    rfl
  obtain ⟨a, n, top, c, cs, R, rfl, hT, hV, ht, hz, k⟩ := h
  have hc := hT.r
  have hrows := hT.rows
  refine ⟨_, pss_cons (ps_set (i := 1) scLDeep.nd rfl (.inr rfl) (pe_lst (pa_cons pe_int (pa_cons pe_int pa_nil))))
    (pss_cons (ps_for PassesOwn.never rfl (pi_tup (pe_ix ix_tup (pv 0) pe_int (fun _ _ => rfl))) (pg_name (i := 2) scLDeep.nd rfl (.inl rfl))
      (pss_one (ps_expr (pe_bm PySem.F.plainAttrs_list PySem.F.slot_list_append PySem.F.type_list_append mt_append (pv 1) (pa_cons (pe_op op_add (pe_callB (cr_max rfl) (by rfl) mM (by decide +kernel) (pa_cons
        (pe_lc (own := [("_law_number_here", 3)]) (g := gName 3) (tt := tYes) (te := tOp (rIxL K) (tVar 1) (tVar 3)) rfl scLDeep.nd (pi_tup (pv 2)) (blkOk_by (N := ["_law_telling", "_law_depths", "_law_row", "_law_number_here"]) (sc := defScope sLDeep) (by decide +kernel))
          (fun _ _ _ _ _ => pg_name (i := 3) scLDeep.nd rfl (Or.inl rfl)) (fun _ _ _ _ _ => pts_nil) (fun _ _ _ _ _ => pe_ix ix_list (pv 1) (pv 3) (fun _ _ => rfl))) pa_nil)) pe_int) pa_nil)))))
    (pss_one (ps_ret (pe_ix ix_list (pv 1) (pe_ix ix_tup (pv 0) pe_int (fun _ _ => rfl)) (fun _ _ => rfl))))), ?_⟩
  refine ⟨(by decide : 2 ≤ sizeLine), fun e he => ?_⟩
  have s0 : Same H (upd H e (.lst [.int 0, .int 0])) := new_same he _
  refine ⟨_, rfl, a, _, 2, .ref c, rfl, rfl, SqT.of (s0 _ _ hT.t), atI_nat (j := 2) rfl, c, rfl, ⟨_, SqT.of (s0 _ _ hc)⟩, for_tup (K := K) (a := c) (xs := cs.map V.ref)
    (fun i σ G => ∃ (v : Option V), σ = [some (.ref a), some (.ref e), v, none] ∧ G e = some (.lst ((depths (R.take i)).map nV)) ∧ Same H G)
    ⟨none, rfl, upd_same, s0⟩ (fun i σ G _ ⟨v, _, _, hb⟩ => SqT.of (hb _ _ hc)) ?_ ?_⟩
  · rintro i y σ G hi ⟨v, rfl, hE, hb⟩
    obtain ⟨b, r, rfl, hcb, hrow, hrd0⟩ := hrows.get2 hi
    have hrd := rd_keep hrd0 (hb b)
    have hil : i < R.length := (List.getElem?_eq_some_iff.mp hrow).1
    obtain ⟨hr4, hrx⟩ := hV i r hrow
    have dl := depths_len (R.take i)
    have til : (R.take i).length = i := by rw [List.length_take]; omega
    refine ⟨_, rfl, .inl ⟨rfl, _, SqL.of hE⟩, _, rfl, b, rfl, ⟨_, .inl hrd⟩, fun D hD => lc_tup (K := K) (a := b) (xs := rV r)
      (fun j G1 => G1 = upd G D (.lst ((r.take j).map fun x => nV (dep (R.take i) x)))) rfl (fun j G1 _ e1 => ?_) ?_ ?_⟩
    · rw [e1]
      exact .inl (rd_keep hrd (new_same hD _ b))
    · rintro j y G1 hy rfl
      obtain ⟨x, hx, rfl⟩ := rV_get hy
      refine ⟨rfl, _, rfl, _, rfl, e, _, _, nV (dep (R.take i) x), rfl, rfl, SqL.of ((new_same hD _) _ _ hE), nV_at ?_, _, upd_same, ?_, ?_⟩
      · have := hrx x (List.mem_of_getElem? hx)
        omega
      · rw [List.length_map, List.length_take]
        exact small_line (by omega)
      · rw [upd_upd]
        congr 2
        exact (take_succ_map _ hx).symm
    · rintro G1 rfl
      have e4 : (r.take (rV r).length).map (fun x => nV (dep (R.take i) x)) = ((r.map (dep (R.take i))).map fun n : Nat => (n : Int)).map V.int := by
        have z : r.take (rV r).length = r := take_all (rV_len r)
        rw [z, List.map_map, List.map_map]
        rfl
      rw [e4]
      refine ⟨D, _, rfl, SqL.of upd_same, by rw [List.length_map, List.length_map]; omega, fun m hm hle => ?_⟩
      have em := max_nat hm hle
      subst em
      have s1 := new_same (o := HO.lst (((r.map (dep (R.take i))).map fun n : Nat => (n : Int)).map V.int)) hD
      refine ⟨_, _, rfl, rfl, e, _, _, rfl, rfl, s1 _ _ hE, by rw [List.length_map, dl, til]; exact small_line (by omega), ?_⟩
      refine ⟨_, rfl, ?_, ?_⟩
      · rw [upd_same, depths_take hrow, List.map_append]
        rfl
      · intro b2 o hb2
        rw [upd_ne (ne_of_none hb2 he)]
        exact s1 _ _ (hb b2 o hb2)
  · rintro σ G ⟨v, rfl, hE, hb⟩
    have z : R.take (cs.map V.ref).length = R := take_all (by rw [List.length_map, hrows.len])
    rw [z] at hE
    refine ⟨_, rfl, _, rfl, a, _, 1, nV top, rfl, rfl, SqT.of (hb _ _ hT.t), atI_nat (j := 1) rfl, e, _, _, nV (dep R top), rfl, rfl, SqL.of hE, nV_at (by rw [depths_len]; exact ht), k G hb⟩
/-! digits -/
def PotAt (H : Hp) (p : Addr) : Prop := ∃ x y : Int, H p = some (.lst [.int x, .int y]) ∧ 0 ≤ x ∧ 0 ≤ y ∧ y < 1099511627776
theorem PotAt.lst {H : Hp} {p : Addr} (h : PotAt H p) : ∃ xs, H p = some (.lst xs) := by
  obtain ⟨x, y, h, _⟩ := h
  exact ⟨_, h⟩
theorem pot_x (x : Int) : 0 ≤ (if x > 0 then x else 0) := by
  split <;> omega
theorem pot_y (x : Int) {i : Nat} (hi : i < 8) : 0 ≤ x % 2147483629 + 97 * (i : Int) + 1 ∧ x % 2147483629 + 97 * (i : Int) + 1 < 1099511627776 := by
  have h1 := Int.emod_nonneg x (show (2147483629 : Int) ≠ 0 by decide)
  have h2 := Int.emod_lt_of_pos x (show (0 : Int) < 2147483629 by decide)
  exact ⟨by omega, by omega⟩
def spPot (K : PySem.W.Frag) : Sp := fun vs H Q _ => ∃ (a : Addr) (ns : List Int) (i : Nat), vs = [.ref a, nV i] ∧ SqL K H a (ns.map V.int) ∧ ns.length ≤ 63 ∧ i < 8 ∧ ∀ (p : Addr) (H' : Hp), H p = none → Same H H' → PotAt H' p → Q (.ref p) H'
theorem ok_pot {f : Addr} {fd : FuncData} (F : FnP K "_law_pot" "_law_pot" sLPot f fd) (mL : mg "len" = none) (mM : mg "max" = none) (mA : mg "abs" = none) : FnOk P w K mg base CX0 1 f fd ["_law_script", "_law_k"] (spPot K) := by
  refine okD F scLPot (fun vs H Q E h => ?_) (fun cdv A outer s H vs Q E hr h => ?_)
  · obtain ⟨a, ns, i, rfl, _⟩ := h
    rfl
  obtain ⟨a, ns, i, rfl, hS, hz, hi, k⟩ := h
  refine ⟨_, pss_cons (ps_set (i := 2) scLPot.nd rfl (.inl rfl) pe_int)
    (pss_cons (ps_if (pt_cmpR op_lt (pv 1) (pe_callB call_len_seq (by rfl) mL PySem.boot_len (pa_cons (pv 0) pa_nil)) (nomark _)) (pss_one (ps_set (i := 2) scLPot.nd rfl (.inl rfl) (pe_ix ix_list (pv 0) (pv 1) (fun _ _ => rfl)))) pss_nil)
    (pss_one (ps_ret (pe_lst (pa_cons (pe_callB (call_max2 rfl) (by rfl) mM (by decide +kernel) (pa_cons pe_int (pa_cons (pe_op op_sub (pe_callB call_abs (by rfl) mA (by decide +kernel) (pa_cons (pv 2) pa_nil)) (pe_op op_pow pe_int pe_int)) pa_nil)))
      (pa_cons (pe_op op_add (pe_op op_add (pe_op op_mod (pe_callB call_abs (by rfl) mA (by decide +kernel) (pa_cons (pv 2) pa_nil)) pe_int) (pe_op op_mul pe_int (pv 1))) pe_int) pa_nil)))))), ?_⟩
  refine ⟨_, rfl, _, rfl, a, _, rfl, .inl hS, _, _, rfl, rfl, _, rfl, ite2 (fun c => ?_) (fun c => ?_)⟩
  · have c1 : (i : Int) < (((ns.map V.int).length : Nat) : Int) := of_decide_eq_true c
    have c2 : i < ns.length := by
      rw [List.length_map] at c1
      omega
    refine ⟨_, rfl, _, rfl, a, _, _, V.int ns[i], rfl, rfl, hS, atI_nat (by rw [List.getElem?_map, List.getElem?_eq_getElem c2]; rfl), ?_⟩
    refine ⟨_, rfl, _, rfl, _, _, rfl, rfl, ⟨by decide, by decide, by decide⟩, _, _, rfl, rfl, _, _, rfl, ?_⟩
    refine ⟨_, rfl, _, rfl, _, _, rfl, rfl, (by show (0 : Int) < 2147483629; decide), _, rfl, _, _, rfl, rfl, .inl ⟨by decide, by decide⟩, _, _, rfl, rfl, _, _, rfl, rfl, (by decide : 2 ≤ sizeLine), fun p hp => ?_⟩
    exact k p _ hp (new_same hp _) ⟨_, _, upd_same, pot_x _, pot_y _ hi⟩
  · refine ⟨_, rfl, _, rfl, _, _, rfl, rfl, ⟨by decide, by decide, by decide⟩, _, _, rfl, rfl, _, _, rfl, ?_⟩
    refine ⟨_, rfl, _, rfl, _, _, rfl, rfl, (by show (0 : Int) < 2147483629; decide), _, rfl, _, _, rfl, rfl, .inl ⟨by decide, by decide⟩, _, _, rfl, rfl, _, _, rfl, rfl, (by decide : 2 ≤ sizeLine), fun p hp => ?_⟩
    exact k p _ hp (new_same hp _) ⟨_, _, upd_same, pot_x _, pot_y _ hi⟩
/-- a digit is drawn: all but the pot stays -/
def spDigit : Sp := fun vs H Q _ => ∃ (p : Addr) (m : Int), vs = [.ref p, .int m] ∧ PotAt H p ∧ 0 < m ∧ m < 1073741824 ∧ ∀ (d : Int) (H' : Hp), 0 ≤ d → d < m → PotAt H' p → But p H H' → Q (.int d) H'
theorem ok_digit {f : Addr} {fd : FuncData} (F : FnP K "_law_digit" "_law_digit" sLDigit f fd) : FnOk P w K mg base CX0 1 f fd ["_law_pot_here", "_law_many"] spDigit := by
  refine okD F scLDigit (fun vs H Q E h => ?_) (fun cdv A outer s H vs Q E hr h => ?_)
  · obtain ⟨p, m, rfl, _⟩ := h
    rfl
  obtain ⟨p, m, rfl, ⟨x, y, hp, hx, hy, hy2⟩, hm, hm2, k⟩ := h
  refine ⟨_, pss_cons (ps_if (pt_cmpR op_gt (pe_ix ix_list (pv 0) pe_int (fun _ _ => rfl)) pe_int (nomark _))
      (pss_cons (ps_set (i := 2) scLDigit.nd rfl (.inl rfl) (pe_op op_mod (pe_ix ix_list (pv 0) pe_int (fun _ _ => rfl)) (pv 1)))
      (pss_cons (ps_asg (pe_op op_fdiv (pe_ix ix_list (pv 0) pe_int (fun _ _ => rfl)) (pv 1)) (pg_sub (pv 0) pe_int set_list))
      (pss_one (ps_ret (pv 2))))) pss_nil)
    (pss_cons (ps_asg (pe_op op_mod (pe_op op_add (pe_op op_mul (pe_ix ix_list (pv 0) pe_int (fun _ _ => rfl)) pe_int) pe_int) pe_int) (pg_sub (pv 0) pe_int set_list))
    (pss_one (ps_ret (pe_op op_mod (pe_op op_fdiv (pe_ix ix_list (pv 0) pe_int (fun _ _ => rfl)) pe_int) (pv 1))))), ?_⟩
  refine ⟨_, rfl, p, _, 0, V.int x, rfl, rfl, SqL.of hp, atI_nat (j := 0) rfl, _, _, rfl, rfl, _, rfl, ite2 (fun c => ?_) (fun c => ?_)⟩
  · refine ⟨_, rfl, p, _, 0, V.int x, rfl, rfl, SqL.of hp, atI_nat (j := 0) rfl, _, rfl, _, _, rfl, rfl, hm, ?_⟩
    refine ⟨_, rfl, p, _, 0, V.int x, rfl, rfl, SqL.of hp, atI_nat (j := 0) rfl, _, rfl, _, _, rfl, rfl, ⟨hm, hm2⟩, _, rfl, p, _, 0, 0, rfl, rfl, hp, rfl, ?_⟩
    refine ⟨_, rfl, k _ _ (Int.emod_nonneg _ (by omega)) (Int.emod_lt_of_pos _ hm) ⟨_, y, upd_same, Int.ediv_nonneg hx (by omega), hy, hy2⟩ ((But.refl _ _).upd _)⟩
  · refine ⟨_, rfl, p, _, 1, V.int y, rfl, rfl, SqL.of hp, atI_nat (j := 1) rfl, _, _, rfl, rfl, .inl ⟨by omega, by omega⟩, _, _, rfl, rfl, _, _, rfl, rfl, (by show (0 : Int) < 2147483629; decide), _, rfl, p, _, 1, 1, rfl, rfl, hp, rfl, ?_⟩
    refine ⟨_, rfl, p, _, 1, _, rfl, rfl, SqL.of upd_same, atI_nat (j := 1) rfl, _, _, rfl, rfl, ⟨by decide, by decide⟩, _, rfl, _, _, rfl, rfl, hm, ?_⟩
    refine k _ _ (Int.emod_nonneg _ (by omega)) (Int.emod_lt_of_pos _ hm) ⟨x, _, upd_same, hx, Int.emod_nonneg _ (by decide), ?_⟩ ((But.refl _ _).upd _)
    exact Int.lt_trans (Int.emod_lt_of_pos _ (by decide)) (by decide)
/-! boxes -/
structure Bx where
  r : Int
  c : Int
  h : Int
  w : Int
def bV (b : Bx) : List V := [.int b.r, .int b.c, .int b.h, .int b.w]
def meetsB (b : Bx) (r c s : Int) : Bool := if r + s ≤ b.r ∨ b.r + b.h ≤ r then false else (decide (c < b.c + b.w) && decide (b.c < c + s))
def hasB (b : Bx) (r c s : Int) : Bool := if r < b.r ∨ b.r + b.h < r + s then false else (decide (b.c ≤ c) && decide (c + s ≤ b.c + b.w))
theorem meets_has {b : Bx} {r c : Int} (h : meetsB b r c 1 = true) : hasB b r c 1 = true := by
  unfold meetsB at h
  unfold hasB
  by_cases h1 : r + 1 ≤ b.r ∨ b.r + b.h ≤ r
  · rw [if_pos h1] at h
    cases h
  · rw [if_neg h1, Bool.and_eq_true] at h
    have h2 := of_decide_eq_true h.1
    have h3 := of_decide_eq_true h.2
    rw [if_neg (by omega), decide_eq_true (by omega), decide_eq_true (by omega)]
    rfl
def spBox (B : Bx → Int → Int → Int → Bool) : Sp := fun vs H Q _ => ∃ (a : Addr) (b : Bx) (r c s : Int), vs = [.ref a, .int r, .int c, .int s] ∧ H a = some (.tup (bV b)) ∧ Q (.bl (B b r c s)) H
theorem ok_meets {f : Addr} {fd : FuncData} (F : FnP K "_law_meets" "_law_meets" sLMeets f fd) : FnOk P w K mg base CX0 1 f fd ["_law_box_here", "_law_row", "_law_column", "_law_side"] (spBox meetsB) := by
  refine okD F scLMeets (fun vs H Q E h => ?_) (fun cdv A outer s H vs Q E hr h => ?_)
  · obtain ⟨a, b, r, c, s, rfl, _⟩ := h
    rfl
  obtain ⟨a, b, r, c, s, rfl, ha, k⟩ := h
  refine ⟨_, pss_cons (ps_if (PW.pt (pw_or (pt_cmpR op_le (pe_op op_add (pv 1) (pv 3)) (pe_ix ix_tup (pv 0) pe_int (fun _ _ => rfl)) (nomark _))
      (pw_or1 (pt_cmpR op_le (pe_op op_add (pe_ix ix_tup (pv 0) pe_int (fun _ _ => rfl)) (pe_ix ix_tup (pv 0) pe_int (fun _ _ => rfl))) (pv 1) (nomark _))))) (pss_one (ps_ret pe_bl)) pss_nil)
    (pss_one (ps_ret (pe_and (pe_cmpR op_lt (pv 2) (pe_op op_add (pe_ix ix_tup (pv 0) pe_int (fun _ _ => rfl)) (pe_ix ix_tup (pv 0) pe_int (fun _ _ => rfl))) (nomark _))
      (pe_one (pe_cmpR op_lt (pe_ix ix_tup (pv 0) pe_int (fun _ _ => rfl)) (pe_op op_add (pv 2) (pv 3)) (nomark _)))))), ?_⟩
  have rd : SqT K H a (bV b) := SqT.of ha
  unfold meetsB at k
  refine ⟨_, rfl, _, rfl, _, _, rfl, rfl, _, rfl, a, _, 0, V.int b.r, rfl, rfl, rd, atI_nat (j := 0) rfl, _, _, rfl, rfl, _, rfl, ite2 (fun c1 => ?_) (fun c1 => ?_)⟩
  · rw [if_pos (.inl (of_decide_eq_true c1))] at k
    exact iteT k
  refine ⟨_, rfl, a, _, 0, V.int b.r, rfl, rfl, rd, atI_nat (j := 0) rfl, _, rfl, a, _, 2, V.int b.h, rfl, rfl, rd, atI_nat (j := 2) rfl, _, _, rfl, rfl, _, rfl, _, _, rfl, rfl, _, rfl, ite2 (fun c2 => ?_) (fun c2 => ?_)⟩
  · rw [if_pos (.inr (of_decide_eq_true c2))] at k
    exact k
  have d1 : ¬ r + s ≤ b.r := of_decide_eq_false (Bool.eq_false_iff.mpr c1)
  have d2 : ¬ b.r + b.h ≤ r := of_decide_eq_false (Bool.eq_false_iff.mpr c2)
  rw [if_neg (fun z => z.elim d1 d2)] at k
  refine ⟨_, rfl, _, rfl, a, _, 1, V.int b.c, rfl, rfl, rd, atI_nat (j := 1) rfl, _, rfl, a, _, 3, V.int b.w, rfl, rfl, rd, atI_nat (j := 3) rfl, _, _, rfl, rfl, _, _, rfl, rfl, _, rfl, ?_⟩
  by_cases c3 : c < b.c + b.w
  · rw [decide_eq_true c3] at k ⊢
    exact iteT ⟨_, rfl, a, _, 1, V.int b.c, rfl, rfl, rd, atI_nat (j := 1) rfl, _, rfl, _, rfl, _, _, rfl, rfl, _, _, rfl, rfl, k⟩
  · rw [decide_eq_false c3] at k ⊢
    exact iteF k
theorem ok_has {f : Addr} {fd : FuncData} (F : FnP K "_law_has" "_law_has" sLHas f fd) : FnOk P w K mg base CX0 1 f fd ["_law_box_here", "_law_row", "_law_column", "_law_side"] (spBox hasB) := by
  refine okD F scLHas (fun vs H Q E h => ?_) (fun cdv A outer s H vs Q E hr h => ?_)
  · obtain ⟨a, b, r, c, s, rfl, _⟩ := h
    rfl
  obtain ⟨a, b, r, c, s, rfl, ha, k⟩ := h
  refine ⟨_, pss_cons (ps_if (PW.pt (pw_or (pt_cmpR op_lt (pv 1) (pe_ix ix_tup (pv 0) pe_int (fun _ _ => rfl)) (nomark _))
      (pw_or1 (pt_cmpR op_lt (pe_op op_add (pe_ix ix_tup (pv 0) pe_int (fun _ _ => rfl)) (pe_ix ix_tup (pv 0) pe_int (fun _ _ => rfl))) (pe_op op_add (pv 1) (pv 3)) (nomark _))))) (pss_one (ps_ret pe_bl)) pss_nil)
    (pss_one (ps_ret (pe_and (pe_cmpR op_le (pe_ix ix_tup (pv 0) pe_int (fun _ _ => rfl)) (pv 2) (nomark _))
      (pe_one (pe_cmpR op_le (pe_op op_add (pv 2) (pv 3)) (pe_op op_add (pe_ix ix_tup (pv 0) pe_int (fun _ _ => rfl)) (pe_ix ix_tup (pv 0) pe_int (fun _ _ => rfl))) (nomark _)))))), ?_⟩
  have rd : SqT K H a (bV b) := SqT.of ha
  unfold hasB at k
  refine ⟨_, rfl, _, rfl, a, _, 0, V.int b.r, rfl, rfl, rd, atI_nat (j := 0) rfl, _, _, rfl, rfl, _, rfl, ite2 (fun c1 => ?_) (fun c1 => ?_)⟩
  · rw [if_pos (.inl (of_decide_eq_true c1))] at k
    exact iteT k
  refine ⟨_, rfl, a, _, 0, V.int b.r, rfl, rfl, rd, atI_nat (j := 0) rfl, _, rfl, a, _, 2, V.int b.h, rfl, rfl, rd, atI_nat (j := 2) rfl, _, _, rfl, rfl, _, rfl, _, rfl, _, _, rfl, rfl, _, _, rfl, rfl, _, rfl, ite2 (fun c2 => ?_) (fun c2 => ?_)⟩
  · rw [if_pos (.inr (of_decide_eq_true c2))] at k
    exact k
  have d1 : ¬ r < b.r := of_decide_eq_false (Bool.eq_false_iff.mpr c1)
  have d2 : ¬ b.r + b.h < r + s := of_decide_eq_false (Bool.eq_false_iff.mpr c2)
  rw [if_neg (fun z => z.elim d1 d2)] at k
  refine ⟨_, rfl, a, _, 1, V.int b.c, rfl, rfl, rd, atI_nat (j := 1) rfl, _, rfl, _, _, rfl, rfl, _, rfl, ?_⟩
  by_cases c3 : b.c ≤ c
  · rw [decide_eq_true c3] at k ⊢
    exact iteT ⟨_, rfl, _, rfl, _, _, rfl, rfl, _, rfl, a, _, 1, V.int b.c, rfl, rfl, rd, atI_nat (j := 1) rfl, _, rfl, a, _, 3, V.int b.w, rfl, rfl, rd, atI_nat (j := 3) rfl, _, _, rfl, rfl, _, _, rfl, rfl, k⟩
  · rw [decide_eq_false c3] at k ⊢
    exact iteF k
end
section
variable {P : Program} {w : World} {K : PySem.W.Frag} {mg : Str → Option Value} {base : Heap}
/-- the boxes bs stand at as -/
structure BoxesAt (H : Hp) (as : List Addr) (bs : List Bx) : Prop where
  len : as.length = bs.length
  at_ : ∀ (i : Nat) (a : Addr) (b : Bx), as[i]? = some a → bs[i]? = some b → H a = some (.tup (bV b))
theorem BoxesAt.nil (H : Hp) : BoxesAt H [] [] := ⟨rfl, fun i a b h _ => by simp at h⟩
theorem BoxesAt.tups {H H' : Hp} {as : List Addr} {bs : List Bx} (h : BoxesAt H as bs) (s : Tups H H') : BoxesAt H' as bs := ⟨h.len, fun i a b h1 h2 => s.tup (h.at_ i a b h1 h2)⟩
theorem BoxesAt.snoc {H : Hp} {as : List Addr} {bs : List Bx} (h : BoxesAt H as bs) {a : Addr} {b : Bx} (e : H a = some (.tup (bV b))) : BoxesAt H (as ++ [a]) (bs ++ [b]) := by
  refine ⟨by rw [List.length_append, List.length_append, h.len]; rfl, fun i c q h1 h2 => ?_⟩
  rcases Nat.lt_trichotomy i bs.length with z | z | z
  · rw [List.getElem?_append_left (by rw [h.len]; exact z)] at h1
    rw [List.getElem?_append_left z] at h2
    exact h.at_ i c q h1 h2
  · subst z
    rw [← h.len, List.getElem?_append_right (Nat.le_refl _), Nat.sub_self] at h1
    rw [List.getElem?_append_right (Nat.le_refl _), Nat.sub_self] at h2
    have e1 : a = c := Option.some.inj h1
    have e2 : b = q := Option.some.inj h2
    rw [← e1, ← e2]
    exact e
  · rw [List.getElem?_eq_none (by rw [List.length_append, List.length_singleton]; omega)] at h2
    cases h2
theorem BoxesAt.get2 {H : Hp} {as : List Addr} {bs : List Bx} (h : BoxesAt H as bs) {i : Nat} {v : V} (e : (as.map V.ref)[i]? = some v) : ∃ a b, v = .ref a ∧ as[i]? = some a ∧ bs[i]? = some b ∧ H a = some (.tup (bV b)) := by
  rw [List.getElem?_map] at e
  obtain ⟨a, e1, e2⟩ := Option.map_eq_some_iff.mp e
  have hi : i < bs.length := by rw [← h.len]; exact (List.getElem?_eq_some_iff.mp e1).1
  exact ⟨a, bs[i], e2.symm, e1, List.getElem?_eq_getElem hi, h.at_ i a _ e1 (List.getElem?_eq_getElem hi)⟩
/-- what a def that draws boxes gives -/
def GivesBoxes (p : Addr) (H : Hp) (Q : VK) : Prop := ∀ (l : Addr) (as : List Addr) (bs : List Bx) (H' : Hp), H' l = some (.lst (as.map V.ref)) → BoxesAt H' as bs → as.length ≤ 100 → PotAt H' p → But p H H' → Q (.ref l) H'
theorem PotAt.but {p : Addr} {H H' : Hp} (h : PotAt H p) (s : But p H H') : Tups H H' := by
  obtain ⟨_, _, h, _⟩ := h
  exact s.tups h (.lst _)
theorem shl_ok {j : Int} (h0 : 0 ≤ j) (h : j ≤ 12) : 1 ≤ 1 * (2 : Int) ^ j.toNat ∧ 1 * (2 : Int) ^ j.toNat ≤ 4096 := by
  obtain ⟨k, rfl⟩ : ∃ k : Nat, j = (k : Int) := ⟨j.toNat, by omega⟩
  have hk : k ≤ 12 := by omega
  rw [Int.toNat_natCast, Int.one_mul]
  have h1 : 2 ^ k ≤ 2 ^ 12 := Nat.pow_le_pow_right (by decide) hk
  have h2 : 1 ≤ 2 ^ k := Nat.one_le_pow _ _ (by decide)
  have e : ((2 ^ k : Nat) : Int) = (2 : Int) ^ k := by rw [Int.natCast_pow]; rfl
  have e2 : (2 : Nat) ^ 12 = 4096 := by decide
  rw [← e]
  omega
theorem shl_ok3 {j : Int} (h0 : 0 ≤ j) (h : j ≤ 3) : 1 * (2 : Int) ^ j.toNat ≤ 8 := by
  obtain ⟨k, rfl⟩ : ∃ k : Nat, j = (k : Int) := ⟨j.toNat, by omega⟩
  have hk : k ≤ 3 := by omega
  rw [Int.toNat_natCast, Int.one_mul]
  have h1 : 2 ^ k ≤ 2 ^ 3 := Nat.pow_le_pow_right (by decide) hk
  have e : ((2 ^ k : Nat) : Int) = (2 : Int) ^ k := by rw [Int.natCast_pow]; rfl
  have e2 : (2 : Nat) ^ 3 = 8 := by decide
  rw [← e]
  omega
theorem cpow1 {j : Int} (h0 : 0 ≤ j) (h : j ≤ 12) : CPow 1 j := ⟨h0, by omega, by decide⟩
def spCells : Sp := fun vs H Q _ => ∃ (p : Addr) (n : Nat), vs = [.ref p, nV n] ∧ PotAt H p ∧ n ≤ 3 ∧ GivesBoxes p H Q
theorem ok_cells {f : Addr} {fd : FuncData} (F : FnP K "_law_cells" "_law_cells" sLCells f fd) (mR : mg "range" = none) (cD : Cal P w K mg base 1 "_law_digit" ["_law_pot_here", "_law_many"] spDigit) : FnOk P w K mg base CX0 2 f fd ["_law_pot_here", "_law_n"] spCells := by
  obtain ⟨fD, dD, GD, gD, kD, bD⟩ := cD
  refine okD F scLCells (fun vs H Q E h => ?_) (fun cdv A outer s H vs Q E hr h => ?_)
  · obtain ⟨p, n, rfl, _⟩ := h
    rfl
  obtain ⟨p, n, rfl, hp, hn, k⟩ := h
  refine ⟨_, pss_cons (ps_set (i := 2) scLCells.nd rfl (.inr rfl) (pe_op op_shl pe_int (pv 1)))
    (pss_one (ps_ret (pe_lc (own := [("_law_k", 3)]) (g := gName 3) (tt := tTest (tOp rEq (tCall spDigit [] E0 (tCons (tVar 0) (tCons (tC (.int 2)) tNil))) (tC (.int 1)))) rfl scLCells.nd (pi_range1 (by rfl) mR (pa_cons (pe_op op_mul (pv 2) (pv 2)) pa_nil))
      (blkOk_by (N := ["_law_pot_here", "_law_n", "_law_side", "_law_k"]) (sc := defScope sLCells) (by decide +kernel)) (fun _ _ _ _ _ => pg_name (i := 3) scLCells.nd rfl (Or.inl rfl))
      (fun _ _ _ _ _ => pts_one (pt_cmpR op_eq (pe_call GD hr rfl gD kD bD .nil pass0 (pa_cons (pv 0) (pa_cons pe_int pa_nil))) pe_int (nomark _)))
      (fun _ _ _ _ _ => pe_tup (pa_cons (pe_op op_fdiv (pv 3) (pv 2)) (pa_cons (pe_op op_mod (pv 3) (pv 2)) (pa_cons pe_int (pa_cons pe_int pa_nil)))))))), ?_⟩
  have h1 := shl_ok (j := (n : Int)) (by omega) (by omega)
  have h2 := shl_ok3 (j := (n : Int)) (by omega) (by omega)
  refine ⟨_, rfl, _, _, rfl, rfl, cpow1 (by omega) (by omega), ?_⟩
  dsimp only
  generalize 1 * (2 : Int) ^ ((n : Int)).toNat = S at h1 h2
  have h3 : S * S ≤ 8 * 8 := Int.mul_le_mul h2 h2 (by omega) (by decide)
  have h4 : 0 ≤ S * S := Int.mul_nonneg (by omega) (by omega)
  refine ⟨_, rfl, _, rfl, _, _, rfl, rfl, .inl ⟨by omega, by omega⟩, _, rfl, by omega, by omega, fun D hD => lc_range (lo := 0) (n := (S * S).toNat)
    (fun i G => ∃ as bs, G D = some (.lst (as.map V.ref)) ∧ BoxesAt G as bs ∧ as.length ≤ i ∧ PotAt G p ∧ But p H G) ?_ ?_ ?_⟩
  · have s1 := new_same hD (HO.lst [])
    obtain ⟨x, y, e1, e2⟩ := hp
    exact ⟨[], [], upd_same, BoxesAt.nil _, Nat.le_refl _, ⟨x, y, s1 _ _ e1, e2⟩, But.of_same s1⟩
  · rintro i G hi ⟨as, bs, hG, hB, hl, hpG, bG⟩
    have npD : D ≠ p := fun e => by
      obtain ⟨_, _, z, _⟩ := hp
      rw [← e, hD] at z
      cases z
    refine ⟨rfl, _, rfl, p, 2, rfl, hpG, by decide, by decide, fun dg G2 d0 d1 hp2 b2 => ⟨rfl, _, rfl, ?_⟩⟩
    have hG2 := b2 _ _ hG npD
    have hB2 := hB.tups (hpG.but b2)
    by_cases c : dg = 1
    · rw [decide_eq_true (by rw [c])]
      refine iteT ⟨_, rfl, _, rfl, _, _, rfl, rfl, ⟨by omega, by omega⟩, _, rfl, _, rfl, _, _, rfl, rfl, by omega, (by decide : 4 ≤ sizeLine), fun t ht => ?_⟩
      have s3 := new_same (o := HO.tup [.int ((0 + (i : Int)) / S), .int ((0 + (i : Int)) % S), .int 1, .int 1]) ht
      refine ⟨_, s3 _ _ hG2, by rw [List.length_map]; exact small_line (by omega), as ++ [t], bs ++ [⟨(0 + (i : Int)) / S, (0 + (i : Int)) % S, 1, 1⟩], by rw [upd_same, List.map_append]; rfl, ?_, by rw [List.length_append, List.length_singleton]; omega, ?_, ?_⟩
      · refine ((hB2.tups (Same.tups s3)).tups (upd_tups (s3 _ _ hG2) (.lst _))).snoc ?_
        rw [upd_ne (ne_of_none hG2 ht).symm, upd_same]
        rfl
      · obtain ⟨x, y, e1, e2⟩ := hp2
        exact ⟨x, y, by rw [upd_ne npD.symm]; exact s3 _ _ e1, e2⟩
      · intro b o hb nb
        rw [upd_ne (ne_of_none hb hD)]
        exact s3 _ _ (b2 _ _ (bG _ _ hb nb) nb)
    · rw [decide_eq_false (fun z => c (V.int.inj z))]
      exact iteF ⟨as, bs, hG2, hB2, by omega, hp2, bG.trans b2⟩
  · rintro G ⟨as, bs, hG, hB, hl, hpG, bG⟩
    exact k D as bs G hG hB (by omega) hpG bG
def spBoxNew : Sp := fun vs H Q _ => ∃ (p : Addr) (n : Nat), vs = [.ref p, nV n, .int 9] ∧ PotAt H p ∧ n ≤ 12 ∧ ∀ (t : Addr) (b : Bx) (H' : Hp), H' t = some (.tup (bV b)) → PotAt H' p → But p H H' → Q (.ref t) H'
theorem PotAt.same {H H' : Hp} {p : Addr} (h : PotAt H p) (s : Same H H') : PotAt H' p := by
  obtain ⟨x, y, e1, e2⟩ := h
  exact ⟨x, y, s _ _ e1, e2⟩
theorem min_pos {x : Int} (h : 1 ≤ x) : 0 < (if x < 9 then x else 9) := by
  split <;> omega
theorem min_small (x : Int) : (if x < 9 then x else 9) < 1073741824 := by
  split <;> omega
theorem ok_box {f : Addr} {fd : FuncData} (F : FnP K "_law_box" "_law_box" sLBox f fd) (mM : mg "min" = none) (cD : Cal P w K mg base 1 "_law_digit" ["_law_pot_here", "_law_many"] spDigit) : FnOk P w K mg base CX0 2 f fd ["_law_pot_here", "_law_n", "_law_most"] spBoxNew := by
  obtain ⟨fD, dD, GD, gD, kD, bD⟩ := cD
  refine okD F scLBox (fun vs H Q E h => ?_) (fun cdv A outer s H vs Q E hr h => ?_)
  · obtain ⟨p, n, rfl, _⟩ := h
    rfl
  obtain ⟨p, n, rfl, hp, hn, k⟩ := h
  refine ⟨_, pss_cons (ps_set (i := 3) scLBox.nd rfl (.inl rfl) (pe_op op_shl pe_int (pv 1)))
    (pss_cons (ps_if (pt_cmpR op_eq (pe_call GD hr rfl gD kD bD .nil pass0 (pa_cons (pv 0) (pa_cons pe_int pa_nil))) pe_int (nomark _))
      (pss_cons (ps_set (i := 4) scLBox.nd rfl (.inl rfl) (pe_call GD hr rfl gD kD bD .nil pass0 (pa_cons (pv 0) (pa_cons (pe_op op_add (pv 1) pe_int) pa_nil))))
      (pss_cons (ps_set (i := 5) scLBox.nd rfl (.inl rfl) (pe_op op_mul (pe_call GD hr rfl gD kD bD .nil pass0 (pa_cons (pv 0) (pa_cons (pe_op op_shl pe_int (pe_op op_sub (pv 1) (pv 4))) pa_nil))) (pe_op op_shl pe_int (pv 4))))
      (pss_cons (ps_set (i := 6) scLBox.nd rfl (.inl rfl) (pe_op op_mul (pe_call GD hr rfl gD kD bD .nil pass0 (pa_cons (pv 0) (pa_cons (pe_op op_shl pe_int (pe_op op_sub (pv 1) (pv 4))) pa_nil))) (pe_op op_shl pe_int (pv 4))))
      (pss_one (ps_ret (pe_tup (pa_cons (pv 5) (pa_cons (pv 6) (pa_cons (pe_op op_shl pe_int (pv 4)) (pa_cons (pe_op op_shl pe_int (pv 4)) pa_nil)))))))))) pss_nil)
    (pss_cons (ps_set (i := 5) scLBox.nd rfl (.inl rfl) (pe_call GD hr rfl gD kD bD .nil pass0 (pa_cons (pv 0) (pa_cons (pv 3) pa_nil))))
    (pss_cons (ps_set (i := 6) scLBox.nd rfl (.inl rfl) (pe_call GD hr rfl gD kD bD .nil pass0 (pa_cons (pv 0) (pa_cons (pv 3) pa_nil))))
    (pss_cons (ps_set (i := 7) scLBox.nd rfl (.inl rfl) (pe_op op_add pe_int (pe_call GD hr rfl gD kD bD .nil pass0 (pa_cons (pv 0) (pa_cons (pe_callB (call_min2 rfl) (by rfl) mM (by decide +kernel) (pa_cons (pv 2) (pa_cons (pe_op op_sub (pv 3) (pv 5)) pa_nil))) pa_nil)))))
    (pss_cons (ps_set (i := 8) scLBox.nd rfl (.inl rfl) (pe_op op_add pe_int (pe_call GD hr rfl gD kD bD .nil pass0 (pa_cons (pv 0) (pa_cons (pe_callB (call_min2 rfl) (by rfl) mM (by decide +kernel) (pa_cons (pv 2) (pa_cons (pe_op op_sub (pv 3) (pv 6)) pa_nil))) pa_nil)))))
    (pss_one (ps_ret (pe_tup (pa_cons (pv 5) (pa_cons (pv 6) (pa_cons (pv 7) (pa_cons (pv 8) pa_nil)))))))))))), ?_⟩
  have h1 := shl_ok (j := (n : Int)) (by omega) (by omega)
  refine ⟨_, rfl, _, _, rfl, rfl, cpow1 (by omega) (by omega), ?_⟩
  dsimp only
  generalize 1 * (2 : Int) ^ ((n : Int)).toNat = S at h1
  refine ⟨_, rfl, p, 2, rfl, hp, by decide, by decide, fun d1 H1 _ _ p1 b1 => ⟨rfl, _, rfl, ite2 (fun _ => ?_) (fun _ => ?_)⟩⟩
  · refine ⟨_, rfl, _, rfl, _, _, rfl, rfl, p, _, rfl, p1, by omega, by omega, fun z H2 z0 z1 p2 b2 => ?_⟩
    have hz : 0 ≤ z ∧ z ≤ 12 := ⟨z0, by omega⟩
    have hnz : 0 ≤ (n : Int) - z ∧ (n : Int) - z ≤ 12 := ⟨by omega, by omega⟩
    have hs := shl_ok hnz.1 hnz.2
    have hs2 := shl_ok hz.1 hz.2
    refine ⟨_, rfl, _, rfl, _, rfl, _, _, rfl, rfl, _, _, rfl, rfl, cpow1 hnz.1 hnz.2, p, _, rfl, p2, by omega, by omega, fun e1 H3 _ e11 p3 b3 => ?_⟩
    refine ⟨_, rfl, _, _, rfl, rfl, cpow1 hz.1 hz.2, _, _, rfl, rfl, .inl ⟨by omega, by omega⟩, ?_⟩
    refine ⟨_, rfl, _, rfl, _, rfl, _, _, rfl, rfl, _, _, rfl, rfl, cpow1 hnz.1 hnz.2, p, _, rfl, p3, by omega, by omega, fun e2 H4 _ e21 p4 b4 => ?_⟩
    refine ⟨_, rfl, _, _, rfl, rfl, cpow1 hz.1 hz.2, _, _, rfl, rfl, .inl ⟨by omega, by omega⟩, ?_⟩
    refine ⟨_, rfl, _, rfl, _, rfl, _, _, rfl, rfl, cpow1 hz.1 hz.2, _, rfl, _, _, rfl, rfl, cpow1 hz.1 hz.2, (by decide : 4 ≤ sizeLine), fun t ht => ?_⟩
    exact k t ⟨_, _, _, _⟩ _ upd_same (p4.same (new_same ht _)) ((((b1.trans b2).trans b3).trans b4).trans (But.of_same (new_same ht _)))
  · refine ⟨_, rfl, _, rfl, p, _, rfl, p1, by omega, by omega, fun r H2 r0 r1 p2 b2 => ?_⟩
    refine ⟨_, rfl, _, rfl, p, _, rfl, p2, by omega, by omega, fun c H3 c0 c1 p3 b3 => ?_⟩
    refine ⟨_, rfl, _, rfl, _, rfl, _, rfl, _, _, rfl, rfl, _, _, rfl, p, _, rfl, p3, min_pos (by omega), min_small _, fun h H4 _ _ p4 b4 => ⟨_, _, rfl, rfl, ?_⟩⟩
    refine ⟨_, rfl, _, rfl, _, rfl, _, rfl, _, _, rfl, rfl, _, _, rfl, p, _, rfl, p4, min_pos (by omega), min_small _, fun wd H5 _ _ p5 b5 => ⟨_, _, rfl, rfl, ?_⟩⟩
    refine ⟨_, rfl, _, rfl, _, rfl, _, rfl, (by decide : 4 ≤ sizeLine), fun t ht => ?_⟩
    exact k t ⟨_, _, _, _⟩ _ upd_same (p5.same (new_same ht _)) (((((b1.trans b2).trans b3).trans b4).trans b5).trans (But.of_same (new_same ht _)))
def spBoxes : Sp := fun vs H Q _ => ∃ (p : Addr) (n : Nat), vs = [.ref p, nV n] ∧ PotAt H p ∧ n ≤ 12 ∧ GivesBoxes p H Q
theorem ok_boxes {f : Addr} {fd : FuncData} (F : FnP K "_law_boxes" "_law_boxes" sLBoxes f fd) (mR : mg "range" = none) (cD : Cal P w K mg base 1 "_law_digit" ["_law_pot_here", "_law_many"] spDigit)
    (cC : Cal P w K mg base 2 "_law_cells" ["_law_pot_here", "_law_n"] spCells) (cB : Cal P w K mg base 2 "_law_box" ["_law_pot_here", "_law_n", "_law_most"] spBoxNew) : FnOk P w K mg base CX0 3 f fd ["_law_pot_here", "_law_n"] spBoxes := by
  obtain ⟨fD, dD, GD, gD, kD, bD⟩ := cD
  obtain ⟨fC, dC, GC, gC, kC, bC⟩ := cC
  obtain ⟨fB, dB, GB, gB, kB, bB⟩ := cB
  refine okD F scLBoxes (fun vs H Q E h => ?_) (fun cdv A outer s H vs Q E hr h => ?_)
  · obtain ⟨p, n, rfl, _⟩ := h
    rfl
  obtain ⟨p, n, rfl, hp, hn, k⟩ := h
  have hr1 := hr.mono (j := 1) (by omega)
  refine ⟨_, pss_cons (ps_if (PW.pt (pw_and (pt_cmpR op_lt (pv 1) pe_int (nomark _)) (pw_and1 (pt_cmpR op_eq (pe_call GD hr1 rfl gD kD bD .nil pass0 (pa_cons (pv 0) (pa_cons pe_int pa_nil))) pe_int (nomark _)))))
      (pss_one (ps_ret (pe_call GC hr rfl gC kC bC .nil pass0 (pa_cons (pv 0) (pa_cons (pv 1) pa_nil))))) pss_nil)
    (pss_one (ps_ret (pe_lc (own := [("_law_k", 2)]) (g := gName 2) (tt := tYes) rfl scLBoxes.nd (pi_range1 (by rfl) mR (pa_cons (pe_call GD hr1 rfl gD kD bD .nil pass0 (pa_cons (pv 0) (pa_cons pe_int pa_nil))) pa_nil))
      (blkOk_by (N := ["_law_pot_here", "_law_n", "_law_k"]) (sc := defScope sLBoxes) (by decide +kernel)) (fun _ _ _ _ _ => pg_name (i := 2) scLBoxes.nd rfl (Or.inl rfl)) (fun _ _ _ _ _ => pts_nil)
      (fun _ _ _ _ _ => pe_call GB hr rfl gB kB bB .nil pass0 (pa_cons (pv 0) (pa_cons (pv 1) (pa_cons pe_int pa_nil))))))), ?_⟩
  have tail : ∀ H1, PotAt H1 p → But p H H1 → tRet (tLc (iRng1 (tCons (tCall spDigit [] E0 (tCons (tVar 0) (tCons (tC (.int 6)) tNil))) tNil)) (gName 2) tYes (tCall spBoxNew [] E0 (tCons (tVar 0) (tCons (tVar 1) (tCons (tC (.int 9)) tNil)))) [2])
      { nx := fun _ H' => Q .non H', rt := Q } [some (.ref p), some (nV n), none] H1 := fun H1 p1 b1 => by
    refine ⟨_, rfl, p, 6, rfl, p1, by decide, by decide, fun m H2 m0 m1 p2 b2 => ⟨m, rfl, by omega, by omega, fun D hD => lc_range (lo := 0) (n := m.toNat)
      (fun i G => ∃ as bs, G D = some (.lst (as.map V.ref)) ∧ BoxesAt G as bs ∧ as.length ≤ i ∧ PotAt G p ∧ But p H2 G) ?_ ?_ ?_⟩⟩
    · exact ⟨[], [], upd_same, BoxesAt.nil _, Nat.le_refl _, p2.same (new_same hD _), But.of_same (new_same hD _)⟩
    · rintro i G hi ⟨as, bs, hG, hB, hl, hpG, bG⟩
      have npD : D ≠ p := fun e => by
        obtain ⟨_, _, z, _⟩ := p2
        rw [← e, hD] at z
        cases z
      refine ⟨rfl, _, rfl, _, rfl, p, n, rfl, hpG, hn, fun t b G2 ht p3 b3 => ?_⟩
      have hG2 := b3 _ _ hG npD
      refine ⟨_, hG2, by rw [List.length_map]; exact small_line (by omega), as ++ [t], bs ++ [b], by rw [upd_same, List.map_append]; rfl, ?_, by rw [List.length_append, List.length_singleton]; omega, ?_, ?_⟩
      · refine ((hB.tups (hpG.but b3)).tups (upd_tups hG2 (.lst _))).snoc ?_
        rw [upd_ne (ne_of ht hG2 (fun z => nomatch z))]
        exact ht
      · obtain ⟨x, y, e1, e2⟩ := p3
        exact ⟨x, y, by rw [upd_ne npD.symm]; exact e1, e2⟩
      · intro b0 o hb nb
        rw [upd_ne (ne_of_none hb hD)]
        exact b3 _ _ (bG _ _ hb nb) nb
    · rintro G ⟨as, bs, hG, hB, hl, hpG, bG⟩
      exact k D as bs G hG hB (by omega) hpG ((b1.trans b2).trans bG)
  refine ⟨_, rfl, _, _, rfl, rfl, _, rfl, ?_⟩
  by_cases c : (n : Int) < 4
  · rw [decide_eq_true c]
    refine iteT ⟨_, rfl, p, 2, rfl, hp, by decide, by decide, fun d1 H1 _ _ p1 b1 => ⟨rfl, _, rfl, ite2 (fun _ => ?_) (fun _ => ?_)⟩⟩
    · exact ⟨_, rfl, _, rfl, p, n, rfl, p1, by omega, fun l as bs H2 e1 e2 e3 e4 e5 => k l as bs H2 e1 e2 e3 e4 (b1.trans e5)⟩
    · exact tail H1 p1 b1
  · rw [decide_eq_false c]
    exact iteF (iteF (tail H hp (But.refl _ _)))
end
section
variable {P : Program} {w : World} {K : PySem.W.Frag} {mg : Str → Option Value} {base : Heap}
/-! ### _law_number -/
def bD (b : Bx) : PyData := .tuple [.int b.r, .int b.c, .int b.h, .int b.w]
theorem bDs_lay : ∀ bs : List Bx, PyData.canLayAll0 (bs.map bD) = true
  | [] => rfl
  | b :: bs => by
    have h := bDs_lay bs
    show (PyData.canLay0 (bD b) && PyData.canLayAll0 (bs.map bD)) = true
    rw [h]
    rfl
theorem bDs_depth : ∀ bs : List Bx, PyData.depthAll (bs.map bD) ≤ 1
  | [] => Nat.zero_le _
  | b :: bs => by
    have h := bDs_depth bs
    show max (PyData.depth (bD b)) (PyData.depthAll (bs.map bD)) ≤ 1
    have h2 : PyData.depth (bD b) = 1 := rfl
    omega
theorem bDs_shaped (bs : List Bx) : SeqAt.shaped (.list (bs.map bD)) = true := shaped_of (bDs_lay bs) (by
  have h := bDs_depth bs
  show PyData.depthAll (bs.map bD) + 1 ≤ 64
  omega)
theorem dp_boxes {K : PySem.W.Frag} {H : Hp} : ∀ {as : List Addr} {bs : List Bx}, BoxesAt H as bs → DpAll K H (as.map V.ref) (bs.map bD)
  | [], [], _ => .nil
  | [], _ :: _, h => absurd h.len (by simp)
  | _ :: _, [], h => absurd h.len (by simp)
  | a :: as, b :: bs, h => .cons (.tup (SqT.of (h.at_ 0 a b rfl rfl)) (.cons (.int _) (.cons (.int _) (.cons (.int _) (.cons (.int _) .nil))))) (dp_boxes ⟨by
    have := h.len
    rw [List.length_cons, List.length_cons] at this
    omega, fun i c q h1 h2 => h.at_ (i + 1) c q h1 h2⟩)
theorem eqv_nil (bs : List Bx) : PyData.eqv (.list (bs.map bD)) (.list []) = decide (bs = []) := by
  cases bs with
  | nil => rfl
  | cons b bs =>
    rw [decide_eq_false (by simp)]
    rfl
theorem nil_shaped : SeqAt.shaped (.list []) = true := shaped_of rfl (by decide)
/-- the numbers of the quarters so far -/
def NS (k : Nat) (R : List Row) : Nat → List Row → List Nat → Prop
  | 0, Rn, xs => Rn = R ∧ xs = []
  | i + 1, Rn, xs => ∃ R1 ys x, NS k R i R1 ys ∧ Num k R1 Rn x ∧ xs = ys ++ [x]
theorem NS.ok {k : Nat} {R : List Row} (w : WF R) : ∀ {i : Nat} {Rn : List Row} {xs : List Nat}, NS k R i Rn xs → WF Rn ∧ xs.length = i ∧ 3 * Rn.length + i ≤ 3 * R.length + i * 4 ^ k ∧ ∀ x ∈ xs, x < Rn.length + 2
  | 0, Rn, xs, ⟨h1, h2⟩ => by
    subst h1 h2
    exact ⟨w, rfl, by omega, fun _ h => by simp at h⟩
  | i + 1, Rn, xs, ⟨R1, ys, x, h, n, e⟩ => by
    subst e
    obtain ⟨w1, l1, f1, x1⟩ := NS.ok w h
    have o := num_ok n w1
    have l2 := o.le
    have f2 := o.few
    have t2 := o.lt
    refine ⟨o.wf, by rw [List.length_append, l1]; rfl, ?_, fun y hy => ?_⟩
    · have p : (i + 1) * 4 ^ k = i * 4 ^ k + 4 ^ k := Nat.succ_mul i _
      omega
    · rcases List.mem_append.mp hy with h | h
      · have := x1 y h
        omega
      · have e : y = x := by simpa using h
        omega
theorem NS.four {k : Nat} {R Rn : List Row} {xs : List Nat} (h : NS k R 4 Rn xs) : Num (k + 1) R (numberOf Rn xs).1 (numberOf Rn xs).2 := by
  obtain ⟨R3, y3, d, ⟨R2, y2, c, ⟨R1, y1, b, ⟨R0, y0, a, ⟨e0, e1⟩, n1, f1⟩, n2, f2⟩, n3, f3⟩, n4, f4⟩ := h
  subst e0 e1 f1 f2 f3 f4
  exact .node k _ _ _ _ _ a b c d n1 n2 n3 n4
theorem plainL_any (q : Row) : ([PyData.list (iD [0, 0, 0, 0]), PyData.list (iD [1, 1, 1, 1])].any fun z => PyData.eqv z (.list (iD q))) = decide (Plain q) := plain_any q
def spNum (k : Nat) : Sp := fun vs H Q _ => ∃ (d l : Addr) (as : List Addr) (bs : List Bx) (R : List Row) (r c s : Int), vs = [.ref d, .ref l, .int r, .int c, .int s] ∧ s = (2 : Int) ^ k ∧ H d = some (.dT (dkv 0 R)) ∧ H l = some (.lst (as.map V.ref)) ∧ BoxesAt H as bs ∧ as.length ≤ 100 ∧
  WF R ∧ k ≤ 12 ∧ 3 * R.length + 4 ^ k ≤ 16777216 ∧ ∀ (R' : List Row) (x : Nat) (H' : Hp), Num k R R' x → H' d = some (.dT (dkv 0 R')) → But d H H' → Q (nV x) H'
/-- the boxes that the square meets -/
def tMet : TE := tLc (iList K (tVar 1)) (gName 6) (tTest (tCall (spBox meetsB) [] E0 (tCons (tVar 6) (tCons (tVar 2) (tCons (tVar 3) (tCons (tVar 4) tNil)))))) (tVar 6) [6]
theorem pow2_pos (k : Nat) : (0 : Int) < 2 ^ k := Int.pow_pos (by decide)
theorem pow2_le {k : Nat} (h : k ≤ 12) : (2 : Int) ^ k ≤ 4096 := by
  have h1 : 2 ^ k ≤ 2 ^ 12 := Nat.pow_le_pow_right (by decide) h
  have e : ((2 ^ k : Nat) : Int) = (2 : Int) ^ k := by rw [Int.natCast_pow]; rfl
  have e2 : (2 : Nat) ^ 12 = 4096 := by decide
  rw [← e]
  omega
theorem pow2_half (k : Nat) : (2 : Int) ^ (k + 1) / 2 = 2 ^ k := by
  rw [Int.pow_succ]
  exact Int.mul_ediv_cancel _ (by decide)
/-- the walk of the first row: met -/
theorem walk_met {H : Hp} {l : Addr} {as : List Addr} {bs : List Bx} {r c s : Int} {a0 : V} {D : Addr} (hD : H D = none) (hl : H l = some (.lst (as.map V.ref))) (hB : BoxesAt H as bs) (hz : as.length ≤ 100) {Qd : Hp → Prop}
    (k : ∀ (as' : List Addr) (bs' : List Bx) (G : Hp), Same H G → G D = some (.lst (as'.map V.ref)) → BoxesAt G as' bs' → as'.length ≤ 100 → (∀ b ∈ bs', meetsB b r c s = true) → Qd G) :
    ∃ W : Nat → Nat → Hp → Prop, (∃ m, W 0 m (upd H D (.lst []))) ∧ ∀ i m G, W i m G →
      ((Itl K l).stop i G ∧ Qd G) ∨ ((Itl K l).go i G ∧ ∃ Nx : Hp → Prop, (∀ H', Nx H' → ∃ m', m' < m ∧ W (i + 1) m' H') ∧ ∀ x H', (Itl K l).yld i G x H' → gName 6 x (wipe [some a0, some (.ref l), some (.int r), some (.int c), some (.int s), none, none, none, none, none] [6]) H' fun σ2 H2 =>
        wipe σ2 [6] = wipe [some a0, some (.ref l), some (.int r), some (.int c), some (.int s), none, none, none, none, none] [6] ∧ (tTest (tCall (spBox meetsB) [] E0 (tCons (tVar 6) (tCons (tVar 2) (tCons (tVar 3) (tCons (tVar 4) tNil)))))) σ2 H2 fun b H3 =>
        if b = true then (tVar 6) σ2 H3 fun y H4 => ∃ acc, H4 D = some (.lst acc) ∧ acc.length < sizeLine ∧ Nx (upd H4 D (.lst (acc ++ [y]))) else Nx H3) := by
  refine lc_list (K := K) (a := l) (xs := as.map V.ref) (fun i G => ∃ as' bs', G = upd H D (.lst (as'.map V.ref)) ∧ BoxesAt H as' bs' ∧ as'.length ≤ i ∧ ∀ b ∈ bs', meetsB b r c s = true)
    ⟨[], [], rfl, BoxesAt.nil _, Nat.le_refl _, fun _ h => by simp at h⟩ (fun i G _ ⟨_, _, e, _⟩ => by rw [e]; exact SqL.of ((new_same hD _) _ _ hl)) ?_ ?_
  · rintro i y G hy ⟨as', bs', rfl, hB2, hl2, hm⟩
    obtain ⟨a, b, rfl, ha, hb, hab⟩ := hB.get2 hy
    have hi : i < as.length := (List.getElem?_eq_some_iff.mp ha).1
    refine ⟨rfl, _, rfl, _, rfl, _, rfl, _, rfl, a, b, r, c, s, rfl, (new_same hD _) _ _ hab, _, rfl, ?_⟩
    by_cases e : meetsB b r c s = true
    · rw [e]
      refine iteT ⟨_, rfl, _, upd_same, by rw [List.length_map]; exact small_line (by omega), as' ++ [a], bs' ++ [b], ?_, hB2.snoc hab, by rw [List.length_append, List.length_singleton]; omega, fun b2 hb2 => ?_⟩
      · rw [upd_upd, List.map_append]
        rfl
      · rcases List.mem_append.mp hb2 with h | h
        · exact hm b2 h
        · have e2 : b2 = b := by simpa using h
          rw [e2]
          exact e
    · rw [Bool.not_eq_true] at e
      rw [e]
      exact iteF ⟨as', bs', rfl, hB2, by omega, hm⟩
  · rintro G ⟨as', bs', rfl, hB2, hl2, hm⟩
    rw [List.length_map] at hl2
    exact k as' bs' _ (new_same hD _) upd_same (hB2.tups (Same.tups (new_same hD _))) (by omega) hm
/-- the walk of any([has ..]) -/
theorem walk_any {H : Hp} {l : Addr} {as : List Addr} {bs : List Bx} {r c s : Int} {a0 a1 : V} {D : Addr} (hD : H D = none) (hl : H l = some (.lst (as.map V.ref))) (hB : BoxesAt H as bs) (hz : as.length ≤ 100) {Qd : Hp → Prop}
    (k : ∀ (G : Hp), Same H G → G D = some (.lst ((bs.map fun b => hasB b r c s).map V.bl)) → Qd G) :
    ∃ W : Nat → Nat → Hp → Prop, (∃ m, W 0 m (upd H D (.lst []))) ∧ ∀ i m G, W i m G →
      ((Itl K l).stop i G ∧ Qd G) ∨ ((Itl K l).go i G ∧ ∃ Nx : Hp → Prop, (∀ H', Nx H' → ∃ m', m' < m ∧ W (i + 1) m' H') ∧ ∀ x H', (Itl K l).yld i G x H' → gName 6 x (wipe [some a0, some a1, some (.int r), some (.int c), some (.int s), some (.ref l), none, none, none, none] [6]) H' fun σ2 H2 =>
        wipe σ2 [6] = wipe [some a0, some a1, some (.int r), some (.int c), some (.int s), some (.ref l), none, none, none, none] [6] ∧ tYes σ2 H2 fun b H3 =>
        if b = true then (tCall (spBox hasB) [] E0 (tCons (tVar 6) (tCons (tVar 2) (tCons (tVar 3) (tCons (tVar 4) tNil))))) σ2 H3 fun y H4 => ∃ acc, H4 D = some (.lst acc) ∧ acc.length < sizeLine ∧ Nx (upd H4 D (.lst (acc ++ [y]))) else Nx H3) := by
  refine lc_list (K := K) (a := l) (xs := as.map V.ref) (fun i G => G = upd H D (.lst ((bs.take i).map fun b => V.bl (hasB b r c s)))) rfl (fun i G _ e => by rw [e]; exact SqL.of ((new_same hD _) _ _ hl)) ?_ ?_
  · rintro i y G hy rfl
    obtain ⟨a, b, rfl, ha, hb, hab⟩ := hB.get2 hy
    have hi : i < as.length := (List.getElem?_eq_some_iff.mp ha).1
    refine ⟨rfl, _, rfl, _, rfl, _, rfl, _, rfl, a, b, r, c, s, rfl, (new_same hD _) _ _ hab, _, upd_same, by rw [List.length_map, List.length_take]; exact small_line (by omega), ?_⟩
    rw [upd_upd]
    congr 2
    exact (take_succ_map _ hb).symm
  · rintro G rfl
    have z : bs.take (as.map V.ref).length = bs := take_all (by rw [List.length_map, hB.len])
    rw [z]
    refine k _ (new_same hD _) ?_
    rw [upd_same, List.map_map]
    rfl
end
section
variable {P : Program} {w : World} {K : PySem.W.Frag} {mg : Str → Option Value} {base : Heap}
theorem any_all {bs : List Bx} {r c : Int} (hm : ∀ b ∈ bs, meetsB b r c 1 = true) (hne : bs ≠ []) : ((bs.map fun b => hasB b r c 1).any id) = true := by
  cases bs with
  | nil => exact absurd rfl hne
  | cons b bs =>
    rw [List.map_cons, List.any_cons, show id (hasB b r c 1) = true from meets_has (hm b (by simp))]
    rfl
theorem int_num (b : Prop) [Decidable b] : V.int (if (!decide b) = true then 1 else 0) = nV (if b then 0 else 1) := by
  by_cases h : b
  · rw [decide_eq_true h, if_pos h]
    rfl
  · rw [decide_eq_false h, if_neg h]
    rfl
theorem iL_shaped (r : Row) : SeqAt.shaped (.list (iD r)) = true := shaped_of (iD_lay r) (by
  show PyData.depthAll (iD r) + 1 ≤ 64
  rw [iD_depth]
  decide)
theorem nV_list (l : List Nat) : l.map nV = rV l := rfl
theorem ok_num {f : Addr} {fd : FuncData} (F : FnP K "_law_number" "_law_number" sLNumber f fd) (mAny : mg "any" = none) (mI : mg "int" = none) (mR : mg "range" = none) (mT : mg "tuple" = none) (mL : mg "len" = none)
    (cM : Cal P w K mg base 1 "_law_meets" ["_law_box_here", "_law_row", "_law_column", "_law_side"] (spBox meetsB)) (cH : Cal P w K mg base 1 "_law_has" ["_law_box_here", "_law_row", "_law_column", "_law_side"] (spBox hasB))
    (gN : mg "_law_number" = some (.ref f)) (bN : Binds K fd ["_law_rows", "_law_boxes_here", "_law_row", "_law_column", "_law_side"] []) :
    ∀ k, FnOk P w K mg base CX0 (k + 2) f fd ["_law_rows", "_law_boxes_here", "_law_row", "_law_column", "_law_side"] (spNum k)
  | 0 => by
    obtain ⟨fM, dM, GM, gM, kM, bM⟩ := cM
    obtain ⟨fH, dH, GH, gH, kH, bH⟩ := cH
    refine okD F scLNumber (fun vs H Q E h => ?_) (fun cdv A outer s H vs Q E hr h => ?_)
    · obtain ⟨d, l, as, bs, R, r, c, s, rfl, _⟩ := h
      rfl
    obtain ⟨d, l, as, bs, R, r, c, s, rfl, rfl, hd, hl, hB, hz, hw, hk, hf, k⟩ := h
    refine ⟨_, pss_cons (ps_set (i := 5) scLNumber.nd rfl (.inr rfl) (pe_lc (own := [("_law_box_here", 6)]) (g := gName 6) (tt := tTest (tCall (spBox meetsB) [] E0 (tCons (tVar 6) (tCons (tVar 2) (tCons (tVar 3) (tCons (tVar 4) tNil)))))) (te := tVar 6) rfl scLNumber.nd (pi_list (pv 1))
        (blkOk_by (N := ["_law_rows", "_law_boxes_here", "_law_row", "_law_column", "_law_side", "_law_met", "_law_box_here", "_law_half", "_law_quarters", "_law_k"]) (sc := defScope sLNumber) (by decide +kernel)) (fun _ _ _ _ _ => pg_name (i := 6) scLNumber.nd rfl (Or.inl rfl))
        (fun _ _ _ _ _ => pts_one (pt_val (pe_call GM hr rfl gM kM bM .nil pass0 (pa_cons (pv 6) (pa_cons (pv 2) (pa_cons (pv 3) (pa_cons (pv 4) pa_nil))))))) (fun _ _ _ _ _ => pv 6)))
      (pss_cons (ps_if (PW.pt (pw_or (pt_cmpR (op_eqD hr.units) (pv 5) (pe_lst pa_nil) (nomark _)) (pw_or1 (pt_val (pe_callB (cr_any rfl) (by rfl) mAny (by decide +kernel) (pa_cons
          (pe_lc (own := [("_law_box_here", 6)]) (g := gName 6) (tt := tYes) (te := tCall (spBox hasB) [] E0 (tCons (tVar 6) (tCons (tVar 2) (tCons (tVar 3) (tCons (tVar 4) tNil))))) rfl scLNumber.nd (pi_list (pv 5))
            (blkOk_by (N := ["_law_rows", "_law_boxes_here", "_law_row", "_law_column", "_law_side", "_law_met", "_law_box_here", "_law_half", "_law_quarters", "_law_k"]) (sc := defScope sLNumber) (by decide +kernel)) (fun _ _ _ _ _ => pg_name (i := 6) scLNumber.nd rfl (Or.inl rfl))
            (fun _ _ _ _ _ => pts_nil) (fun _ _ _ _ _ => pe_call GH hr rfl gH kH bH .nil pass0 (pa_cons (pv 6) (pa_cons (pv 2) (pa_cons (pv 3) (pa_cons (pv 4) pa_nil)))))) pa_nil))))))
          (pss_one (ps_ret (pe_callTy call_int1 (by rfl) mI (by decide +kernel) (pa_cons (pe_cmpR (op_neD hr.units) (pv 5) (pe_lst pa_nil) (nomark _)) pa_nil)))) pss_nil) pss_never), ?_⟩
    refine ⟨_, rfl, l, rfl, ⟨_, SqL.of hl⟩, fun D hD => walk_met (K := K) (a0 := .ref d) hD hl hB hz fun as' bs' G sG hG hB2 hz2 hm => ?_⟩
    have fin : ∀ G2, Same G G2 → tRet (tCB (fun xs H Q => (∃ i, xs = [.int i] ∧ Q (.int i) H) ∨ ∃ k, xs = [.bl k] ∧ Q (.int (if k then 1 else 0)) H) (tCons (tOp (rNeD K) (tVar 5) (tLst tNil)) tNil))
        { nx := fun _ H' => Q .non H', rt := Q } [some (.ref d), some (.ref l), some (.int r), some (.int c), some (.int (2 ^ 0)), some (.ref D), none, none, none, none] G2 := fun G2 s2 => by
      refine ⟨_, rfl, (by decide : 0 ≤ sizeLine), fun e he => ⟨_, _, .lst (SqL.of ((new_same he _) _ _ (s2 _ _ hG))) (dp_boxes (hB2.tups (Same.tups (s2.trans (new_same he _))))), .lst (SqL.of upd_same) .nil, bDs_shaped bs', nil_shaped, .inr ⟨_, rfl, ?_⟩⟩⟩
      rw [eqv_nil, int_num]
      have sF := (sG.trans s2).trans (new_same he (HO.lst []))
      exact k R _ _ (.leaf 0 R _ (by split <;> omega)) (sF _ _ hd) (But.of_same sF)
    refine ⟨_, rfl, (by decide : 0 ≤ sizeLine), fun e he => ⟨_, _, .lst (SqL.of ((new_same he _) _ _ hG)) (dp_boxes (hB2.tups (Same.tups (new_same he _)))), .lst (SqL.of upd_same) .nil, bDs_shaped bs', nil_shaped, _, rfl, ?_⟩⟩
    rw [eqv_nil]
    by_cases hn : bs' = []
    · rw [decide_eq_true hn]
      exact iteT (iteT (fin _ (new_same he _)))
    · rw [decide_eq_false hn]
      have s1 := new_same he (HO.lst [])
      refine iteF ⟨_, rfl, D, rfl, ⟨_, SqL.of (s1 _ _ hG)⟩, fun D2 hD2 => walk_any (K := K) (a0 := .ref d) (a1 := .ref l) hD2 (s1 _ _ hG) (hB2.tups (Same.tups s1)) hz2 fun G2 s2 hG2 => ?_⟩
      have ea : ((bs'.map fun b => hasB b r c (2 ^ 0)).any id) = true := any_all hm hn
      refine ⟨D2, _, rfl, SqL.of hG2, _, rfl, ?_⟩
      rw [ea]
      exact iteT (fin _ (s1.trans s2))
  | kk + 1 => by
    have GN := ok_num F mAny mI mR mT mL cM cH gN bN kk
    obtain ⟨fM, dM, GM, gM, kM, bM⟩ := cM
    obtain ⟨fH, dH, GH, gH, kH, bH⟩ := cH
    refine okD F scLNumber (fun vs H Q E h => ?_) (fun cdv A outer s H vs Q E hr h => ?_)
    · obtain ⟨d, l, as, bs, R, r, c, s, rfl, _⟩ := h
      rfl
    obtain ⟨d, l, as, bs, R, r, c, s, rfl, rfl, hd, hl, hB, hz, hw, hk, hf, k⟩ := h
    have hr1 := hr.mono (j := 1) (by omega)
    have hu := hu_of hr
    refine ⟨_, pss_cons (ps_set (i := 5) scLNumber.nd rfl (.inr rfl) (pe_lc (own := [("_law_box_here", 6)]) (g := gName 6) (tt := tTest (tCall (spBox meetsB) [] E0 (tCons (tVar 6) (tCons (tVar 2) (tCons (tVar 3) (tCons (tVar 4) tNil)))))) (te := tVar 6) rfl scLNumber.nd (pi_list (pv 1))
        (blkOk_by (N := ["_law_rows", "_law_boxes_here", "_law_row", "_law_column", "_law_side", "_law_met", "_law_box_here", "_law_half", "_law_quarters", "_law_k"]) (sc := defScope sLNumber) (by decide +kernel)) (fun _ _ _ _ _ => pg_name (i := 6) scLNumber.nd rfl (Or.inl rfl))
        (fun _ _ _ _ _ => pts_one (pt_val (pe_call GM hr1 rfl gM kM bM .nil pass0 (pa_cons (pv 6) (pa_cons (pv 2) (pa_cons (pv 3) (pa_cons (pv 4) pa_nil))))))) (fun _ _ _ _ _ => pv 6)))
      (pss_cons (ps_if (PW.pt (pw_or (pt_cmpR (op_eqD hr.units) (pv 5) (pe_lst pa_nil) (nomark _)) (pw_or1 (pt_val (pe_callB (cr_any rfl) (by rfl) mAny (by decide +kernel) (pa_cons
          (pe_lc (own := [("_law_box_here", 6)]) (g := gName 6) (tt := tYes) (te := tCall (spBox hasB) [] E0 (tCons (tVar 6) (tCons (tVar 2) (tCons (tVar 3) (tCons (tVar 4) tNil))))) rfl scLNumber.nd (pi_list (pv 5))
            (blkOk_by (N := ["_law_rows", "_law_boxes_here", "_law_row", "_law_column", "_law_side", "_law_met", "_law_box_here", "_law_half", "_law_quarters", "_law_k"]) (sc := defScope sLNumber) (by decide +kernel)) (fun _ _ _ _ _ => pg_name (i := 6) scLNumber.nd rfl (Or.inl rfl))
            (fun _ _ _ _ _ => pts_nil) (fun _ _ _ _ _ => pe_call GH hr1 rfl gH kH bH .nil pass0 (pa_cons (pv 6) (pa_cons (pv 2) (pa_cons (pv 3) (pa_cons (pv 4) pa_nil)))))) pa_nil))))))
          (pss_one (ps_ret (pe_callTy call_int1 (by rfl) mI (by decide +kernel) (pa_cons (pe_cmpR (op_neD hr.units) (pv 5) (pe_lst pa_nil) (nomark _)) pa_nil)))) pss_nil)
      (pss_cons (ps_set (i := 7) scLNumber.nd rfl (.inr rfl) (pe_op op_fdiv (pv 4) pe_int))
      (pss_cons (ps_setLc (i := 8) (own := [("_law_k", 9)]) (g := gName 9) (tt := tYes) rfl scLNumber.nd rfl rfl (sw_true rfl rfl rfl (by decide +kernel)) (pi_range1 (by rfl) mR (pa_cons pe_int pa_nil))
        (blkOk_by (N := ["_law_rows", "_law_boxes_here", "_law_row", "_law_column", "_law_side", "_law_met", "_law_box_here", "_law_half", "_law_quarters", "_law_k"]) (sc := defScope sLNumber) (by decide +kernel)) (fun _ _ _ _ _ => pg_name (i := 9) scLNumber.nd rfl (Or.inl rfl)) (fun _ _ _ _ _ => pts_nil)
        (fun _ _ _ _ _ => pe_call GN hr rfl gN F.kp bN .nil pass0 (pa_cons (pv 0) (pa_cons (pv 5) (pa_cons (pe_op op_add (pv 2) (pe_op op_mul (pv 7) (pe_op op_fdiv (pv 9) pe_int))) (pa_cons (pe_op op_add (pv 3) (pe_op op_mul (pv 7) (pe_op op_mod (pv 9) pe_int))) (pa_cons (pv 7) pa_nil)))))))
      (pss_cons (ps_if (pt_cmpR (op_inT (hu65 hr)) (pv 8) (pe_tup (pa_cons (pe_lst (pa_cons pe_int (pa_cons pe_int (pa_cons pe_int (pa_cons pe_int pa_nil))))) (pa_cons (pe_lst (pa_cons pe_int (pa_cons pe_int (pa_cons pe_int (pa_cons pe_int pa_nil))))) pa_nil))) (by rfl))
          (pss_one (ps_ret (pe_ix ix_list (pv 8) pe_int (fun _ _ => rfl)))) pss_nil)
      (pss_cons (ps_if (pt_cmp (pc_dnotin hu (pe_callTy call_tuple_of (by rfl) mT (by decide +kernel) (pa_cons (pv 8) pa_nil)) (pv 0)))
          (pss_one (ps_dput hu (pv 0) (pe_callTy call_tuple_of (by rfl) mT (by decide +kernel) (pa_cons (pv 8) pa_nil)) (pe_op op_add (pe_callB call_len_dT (by rfl) mL PySem.boot_len (pa_cons (pv 0) pa_nil)) pe_int) rfl)) pss_nil)
      (pss_one (ps_ret (pe_dget hu (pv 0) (pe_callTy call_tuple_of (by rfl) mT (by decide +kernel) (pa_cons (pv 8) pa_nil)) (fun _ _ => rfl))))))))), ?_⟩
    refine ⟨_, rfl, l, rfl, ⟨_, SqL.of hl⟩, fun D hD => walk_met (K := K) (a0 := .ref d) hD hl hB hz fun as' bs' G sG hG hB2 hz2 hm => ?_⟩
    have fin : ∀ G2, Same G G2 → tRet (tCB (fun xs H Q => (∃ i, xs = [.int i] ∧ Q (.int i) H) ∨ ∃ k, xs = [.bl k] ∧ Q (.int (if k then 1 else 0)) H) (tCons (tOp (rNeD K) (tVar 5) (tLst tNil)) tNil))
        { nx := fun _ H' => Q .non H', rt := Q } [some (.ref d), some (.ref l), some (.int r), some (.int c), some (.int (2 ^ (kk + 1))), some (.ref D), none, none, none, none] G2 := fun G2 s2 => by
      refine ⟨_, rfl, (by decide : 0 ≤ sizeLine), fun e he => ⟨_, _, .lst (SqL.of ((new_same he _) _ _ (s2 _ _ hG))) (dp_boxes (hB2.tups (Same.tups (s2.trans (new_same he _))))), .lst (SqL.of upd_same) .nil, bDs_shaped bs', nil_shaped, .inr ⟨_, rfl, ?_⟩⟩⟩
      rw [eqv_nil, int_num]
      have sF := (sG.trans s2).trans (new_same he (HO.lst []))
      exact k R _ _ (.leaf (kk + 1) R _ (by split <;> omega)) (sF _ _ hd) (But.of_same sF)
    refine ⟨_, rfl, (by decide : 0 ≤ sizeLine), fun e he => ⟨_, _, .lst (SqL.of ((new_same he _) _ _ hG)) (dp_boxes (hB2.tups (Same.tups (new_same he _)))), .lst (SqL.of upd_same) .nil, bDs_shaped bs', nil_shaped, _, rfl, ?_⟩⟩
    rw [eqv_nil]
    by_cases hn : bs' = []
    · rw [decide_eq_true hn]
      exact iteT (iteT (fin _ (new_same he _)))
    rw [decide_eq_false hn]
    have s1 := new_same he (HO.lst [])
    refine iteF ⟨_, rfl, D, rfl, ⟨_, SqL.of (s1 _ _ hG)⟩, fun D2 hD2 => walk_any (K := K) (a0 := .ref d) (a1 := .ref l) hD2 (s1 _ _ hG) (hB2.tups (Same.tups s1)) hz2 fun G2 s2 hG2 => ?_⟩
    refine ⟨D2, _, rfl, SqL.of hG2, _, rfl, ite2 (fun _ => fin _ (s1.trans s2)) (fun _ => ?_)⟩
    -- the quarters
    have s12 := s1.trans s2
    have sF := sG.trans s12
    have hGD := s12 _ _ hG
    have hB3 := hB2.tups (Same.tups s12)
    refine ⟨_, rfl, _, _, rfl, rfl, ⟨by decide, by decide⟩, ?_⟩
    dsimp only
    rw [pow2_half]
    have hdk : (0 : Int) < 2 ^ kk := pow2_pos kk
    have hdk2 : (2 : Int) ^ kk ≤ 4096 := pow2_le (by omega)
    have h4 : 4 ^ (kk + 1) = 4 * 4 ^ kk := by rw [Nat.pow_succ, Nat.mul_comm]
    have hd2 := sF _ _ hd
    refine ⟨4, rfl, by decide, by decide, fun D3 hD3 => lc_range (lo := 0) (n := 4) (fun i G3 => ∃ Rn xs, NS kk R i Rn xs ∧ G3 D3 = some (.lst (xs.map nV)) ∧ G3 d = some (.dT (dkv 0 Rn)) ∧ But d G2 G3) ?_ ?_ ?_⟩
    · have s3 := new_same hD3 (HO.lst [])
      exact ⟨R, [], ⟨rfl, rfl⟩, upd_same, s3 _ _ hd2, But.of_same s3⟩
    · rintro i G3 hi ⟨Rn, xs, hNS, hGx, hGd, bG⟩
      obtain ⟨w1, l1, f1, x1⟩ := NS.ok hw hNS
      have hi4 : i * 4 ^ kk ≤ 3 * 4 ^ kk := Nat.mul_le_mul_right _ (by omega)
      have nD3 : d ≠ D3 := ne_of_none hd2 hD3
      have nDd : D ≠ d := ne_of hGD hd2 (fun z => nomatch z)
      refine ⟨rfl, _, rfl, _, rfl, _, rfl, _, rfl, _, rfl, _, _, rfl, rfl, ⟨by decide, by decide⟩, _, _, rfl, rfl, .inl ⟨by omega, by omega⟩, _, _, rfl, rfl, _, rfl, _, rfl, _, rfl, _, _, rfl, rfl, (by show (0 : Int) < 2; decide), _, _, rfl, rfl, .inl ⟨by omega, by omega⟩, _, _, rfl, rfl, _, rfl,
        d, D, as', bs', Rn, _, _, _, rfl, rfl, hGd, bG _ _ hGD nDd, hB3.tups (bG.tups hd2 (.dT _)), hz2, w1, by omega, by omega, fun R' x G4 hn4 hd4 b4 => ?_⟩
      have hG4 := b4 _ _ hGx nD3.symm
      refine ⟨_, hG4, by rw [List.length_map, l1]; exact small_line (by omega), R', xs ++ [x], ⟨Rn, xs, x, hNS, hn4, rfl⟩, by rw [upd_same, List.map_append]; rfl, by rw [upd_ne nD3]; exact hd4, ?_⟩
      intro b o hb nb
      rw [upd_ne (ne_of_none hb hD3)]
      exact b4 _ _ (bG _ _ hb nb) nb
    rintro G3 ⟨Rn, xs, hNS, hGx, hGd, bG⟩
    obtain ⟨w1, l1, f1, x1⟩ := NS.ok hw hNS
    have hfin := NS.four hNS
    have bH : But d H G3 := (But.of_same sF).trans bG
    refine ⟨_, rfl, (by decide : 4 ≤ sizeLine), fun p1 n1 => ⟨(by decide : 4 ≤ sizeLine), fun p2 n2 => ⟨(by decide : 2 ≤ sizeLine), fun p3 n3 => ?_⟩⟩⟩
    have t1 := new_same n1 (HO.lst [.int 0, .int 0, .int 0, .int 0])
    have t2 := new_same n2 (HO.lst [.int 1, .int 1, .int 1, .int 1])
    have t3 := new_same n3 (HO.tup [.ref p1, .ref p2])
    have t13 := t1.trans (t2.trans t3)
    refine ⟨.list (iD xs), [.list (iD [0, 0, 0, 0]), .list (iD [1, 1, 1, 1])], .lst (SqL.of (t13 _ _ hGx)) (dp_ints xs),
      .tup (.inl (.inl upd_same)) (.cons (.lst (SqL.of (t3 _ _ (t2 _ _ upd_same))) (dp_ints [0, 0, 0, 0])) (.cons (.lst (SqL.of (t3 _ _ upd_same)) (dp_ints [1, 1, 1, 1])) .nil)), ⟨iL_shaped xs, shaped_of rfl (by decide)⟩, _, rfl, ?_⟩
    rw [plainL_any]
    generalize upd (upd (upd G3 p1 (.lst [.int 0, .int 0, .int 0, .int 0])) p2 (.lst [.int 1, .int 1, .int 1, .int 1])) p3 (.tup [.ref p1, .ref p2]) = J at t13
    have hJx := t13 _ _ hGx
    have hJd := t13 _ _ hGd
    have bJ : But d H J := bH.trans (But.of_same t13)
    by_cases hp : Plain xs
    · rw [decide_eq_true hp]
      obtain ⟨a1, a2, a3, a4, eq⟩ := four l1
      have en : numberOf Rn xs = (Rn, a1) := by
        unfold numberOf
        rw [if_pos hp, eq] <;> rfl
      rw [en] at hfin
      exact iteT ⟨_, rfl, D3, _, 0, nV a1, rfl, rfl, SqL.of hJx, atI_nat (j := 0) (by rw [eq]; rfl), k Rn a1 J hfin hJd bJ⟩
    rw [decide_eq_false hp]
    refine iteF ⟨_, rfl, D3, _, rfl, .inl ⟨SqL.of hJx, fun q hq => ?_⟩⟩
    have u1 := new_same hq (HO.tup (xs.map nV))
    refine ⟨_, rfl, d, _, rfl, DGet.t (k := rK xs) (u1 _ _ hJd) (by rw [rK_kV]; exact upd_same), _, rfl, ?_⟩
    rw [dkv_val]
    by_cases hm2 : xs ∈ Rn
    · rw [if_pos hm2]
      have en : numberOf Rn xs = (Rn, Rn.idxOf xs + 2) := by
        unfold numberOf
        rw [if_neg hp, if_pos hm2]
      rw [en] at hfin
      refine iteF ⟨_, rfl, _, rfl, D3, _, rfl, .inl ⟨SqL.of (u1 _ _ hJx), fun q2 hq2 => ?_⟩⟩
      have u2 := new_same hq2 (HO.tup (xs.map nV))
      refine ⟨d, nV (Rn.idxOf xs + 2), rfl, ?_, k Rn _ _ hfin (u2 _ _ (u1 _ _ hJd)) (bJ.trans (But.of_same (u1.trans u2)))⟩
      have g := DGet.t (k := rK xs) (u2 _ _ (u1 _ _ hJd)) (by rw [rK_kV]; exact upd_same)
      rw [dkv_val, if_pos hm2, Nat.zero_add] at g
      exact g
    rw [if_neg hm2]
    have en : numberOf Rn xs = (Rn ++ [xs], Rn.length + 2) := by
      unfold numberOf
      rw [if_neg hp, if_neg hm2]
    rw [en] at hfin
    refine iteT ⟨_, rfl, d, _, rfl, u1 _ _ hJd, _, _, rfl, rfl, _, rfl, _, rfl, D3, _, rfl, .inl ⟨SqL.of (u1 _ _ hJx), fun q2 hq2 => ?_⟩⟩
    have u2 := new_same hq2 (HO.tup (xs.map nV))
    have hd6 := u2 _ _ (u1 _ _ hJd)
    refine ⟨d, _, rfl, DPut.t (k := rK xs) hd6 (by rw [rK_kV]; exact upd_same) (by rw [dkv_len]; exact small_line (by omega)), ?_⟩
    have ev : V.int ((((dkv 0 Rn).length : Nat) : Int) + 2) = nV (Rn.length + 2) := by
      rw [dkv_len]
      rfl
    dsimp only
    rw [ev, putK_new _ (by rw [dkv_val, if_neg hm2])]
    have ed : dkv 0 Rn ++ [(rK xs, nV (Rn.length + 2))] = dkv 0 (Rn ++ [xs]) := by
      rw [dkv_snoc, Nat.zero_add]
    rw [ed]
    have hlast : valV (dkv 0 (Rn ++ [xs])) (rK xs) = some (nV (Rn.length + 2)) := by
      rw [dkv_val, if_pos (by simp), Nat.zero_add, List.idxOf_append, if_neg hm2, List.idxOf_cons_self]
      show some (nV (0 + Rn.length + 2)) = _
      rw [Nat.zero_add]
    have nD3 : D3 ≠ d := (ne_of_none hd2 hD3).symm
    refine ⟨_, rfl, _, rfl, D3, _, rfl, .inl ⟨SqL.of (by rw [upd_ne nD3]; exact u2 _ _ (u1 _ _ hJx)), fun q3 hq3 => ?_⟩⟩
    have u3 := new_same hq3 (HO.tup (xs.map nV))
    refine ⟨d, nV (Rn.length + 2), rfl, ?_, k _ _ _ hfin (u3 _ _ upd_same) (((bJ.trans (But.of_same (u1.trans u2))).upd _).trans (But.of_same u3))⟩
    have g := DGet.t (k := rK xs) (u3 _ _ upd_same) (by rw [rK_kV]; exact upd_same)
    rw [hlast] at g
    exact g
/-! ### _law_shape -/
theorem rows_of_keys {H : Hp} : ∀ (k : Nat) (R : List Row) (bs : List Addr), IsKeys H (dkv k R) bs → RowsAt H bs R
  | _, [], bs, h => by
    cases h
    exact RowsAt.nil _
  | k, r :: R, bs, h => by
    cases h with
    | cons h1 h2 =>
      have ih := rows_of_keys (k + 1) R _ h2
      refine ⟨by rw [List.length_cons, List.length_cons, ih.len], fun i b q e1 e2 => ?_⟩
      cases i with
      | zero =>
        have z1 := Option.some.inj e1
        have z2 := Option.some.inj e2
        subst z1 z2
        have h3 : H _ = some (.tup ((rK r).map kV)) := h1
        rw [rK_kV] at h3
        exact .inl h3
      | succ i => exact ih.at_ i b q e1 e2
def spLShape : Sp := fun vs H Q _ => ∃ (n : Nat) (l : Addr) (as : List Addr) (bs : List Bx), vs = [nV n, .ref l] ∧ n ≤ 12 ∧ H l = some (.lst (as.map V.ref)) ∧ BoxesAt H as bs ∧ as.length ≤ 100 ∧
  ∀ (R : List Row) (top : Nat) (a c : Addr) (cs : List Addr) (H' : Hp), Num n [] R top → Same H H' → TelAt H' a n top R c cs → Q (.ref a) H'
theorem ok_lshape {f : Addr} {fd : FuncData} (F : FnP K "_law_shape" "_law_shape" sLShape f fd) (mT : mg "tuple" = none) (cN : ∀ k, Cal P w K mg base (k + 2) "_law_number" ["_law_rows", "_law_boxes_here", "_law_row", "_law_column", "_law_side"] (spNum k)) :
    FnOk P w K mg base CX0 15 f fd ["_law_n", "_law_boxes_here"] spLShape := by
  refine okD F scLShape (fun vs H Q E h => ?_) (fun cdv A outer s H vs Q E hr h => ?_)
  · obtain ⟨n, l, as, bs, rfl, _⟩ := h
    rfl
  obtain ⟨n', l, as, bs, rfl, hn', hl, hB, hz, k⟩ := h
  obtain ⟨fN, dN, GN, gN, kN, bN⟩ := cN n'
  refine ⟨_, pss_cons (ps_set (i := 2) scLShape.nd rfl (.inl rfl) pe_dnewT)
    (pss_cons (ps_set (i := 3) scLShape.nd rfl (.inl rfl) (pe_call GN (hr.mono (by omega)) rfl gN kN bN .nil pass0 (pa_cons (pv 2) (pa_cons (pv 1) (pa_cons pe_int (pa_cons pe_int (pa_cons (pe_op op_shl pe_int (pv 0)) pa_nil)))))))
    (pss_one (ps_ret (pe_tup (pa_cons (pv 0) (pa_cons (pv 3) (pa_cons (pe_callTy (call_tuple_dT rfl) (by rfl) mT (by decide +kernel) (pa_cons (pv 2) pa_nil)) pa_nil))))))), ?_⟩
  intro d hd
  have s0 := new_same hd (HO.dT [])
  refine ⟨_, rfl, _, rfl, _, rfl, _, _, rfl, rfl, cpow1 (by omega) (by omega), d, l, as, bs, [], _, _, _, rfl, ?_, upd_same, s0 _ _ hl, hB.tups (Same.tups s0), hz, WF.nil, hn', ?_, fun R top H1 hnum h1 b1 => ?_⟩
  · show 1 * (2 : Int) ^ ((n' : Int)).toNat = 2 ^ n'
    rw [Int.one_mul, Int.toNat_natCast]
  · have p : 4 ^ n' ≤ 4 ^ 12 := Nat.pow_le_pow_right (by decide) hn'
    have e : (4 : Nat) ^ 12 = 16777216 := by decide
    have z : ([] : List Row).length = 0 := rfl
    omega
  have sH : Same H H1 := fun b o hb => b1 _ _ (s0 _ _ hb) (ne_of_none hb hd)
  refine ⟨_, rfl, _, rfl, _, rfl, d, _, rfl, .inl h1, fun c cs hc hk => ⟨(by decide : 3 ≤ sizeLine), fun a ha => ?_⟩⟩
  have s1 := new_same hc (HO.tup (cs.map V.ref))
  have s2 := new_same ha (HO.tup [nV n', nV top, .ref c])
  exact k R top a c cs _ hnum (sH.trans (s1.trans s2)) ⟨upd_same, s2 _ _ upd_same, (rows_of_keys 0 R cs hk).same (s1.trans s2)⟩
end
/-! ### tuples that are known to the object -/
section
variable {X : Cx}
/-- a known tuple without a dict of its own -/
def FrzAt (H : Hp) (b : Addr) : Prop := ∃ o xs, H b = some (.frz o (.tup xs)) ∧ o.dict = none
theorem FrzAt.same {H H' : Hp} {b : Addr} (h : FrzAt H b) (s : Same H H') : FrzAt H' b := by
  obtain ⟨o, xs, e, d⟩ := h
  exact ⟨o, xs, s _ _ e, d⟩
/-- tuple(list), the new tuple known -/
def rTupZ (K : PySem.W.Frag) : List V → Hp → VK → Prop := fun xs H Q => ∃ p ys, xs = [.ref p] ∧ SqL K H p ys ∧ ∀ l o, H l = none → o.dict = none → Q (.ref l) (upd H l (.frz o (.tup ys)))
theorem call_tupZ : CallR X (.type "tuple") (rTupZ X.K) := by
  intro pins s σ H xs us Q I r ⟨p, ys, e0, hs, q⟩
  subst e0
  obtain ⟨u, rfl, rx⟩ := vals1 r
  obtain rfl : u = .ref p := rx
  obtain ⟨its, rv, pl, hz⟩ := I.list hs
  refine call_tuple_list pl.isList (fun g hk => ?_) (by rw [List.size_toArray, ← rv.length]; exact hz)
  have I1 : Inv X pins σ H { s with heap := g } := I.kept (t' := s.toks) hk
  have hg : (g.push { cls := .type "tuple", data := .seq its.toArray }).get? g.objs.size = some { cls := .type "tuple", data := .seq its.toArray } := Heap.get?_push_size _ rfl
  have I2 : Inv X pins σ (upd H g.objs.size (.frz { cls := .type "tuple", data := .seq its.toArray } (.tup ys))) { s with heap := g.push { cls := .type "tuple", data := .seq its.toArray } } :=
    I1.laid (t' := s.toks) (fun b o e => Heap.get?_push_of_some _ e) (Nat.le_refl _) ⟨hg, hz, its, rv, _, hg, rfl, _, rfl⟩
  exact ⟨.ref g.objs.size, _, I2, rfl, q _ _ (I1.hok.fresh (Nat.le_refl _)) rfl⟩
/-- a method of a known tuple -/
def tTM (r : V → List V → Hp → VK → Prop) (to : TE) (t : TA) : TE := fun σ H Q => to σ H fun x H1 => (∃ b, x = .ref b ∧ FrzAt H1 b) ∧ t σ H1 fun xs H2 => r x xs H2 Q
variable {o e : Expr} {es : List Expr} {to : TE} {t : TA} {name : Str} {apos cpos : Pos} {id : String} {r : V → List V → Hp → VK → Prop}
theorem pe_tm (pa : PlainAttrs "tuple") (slot : Slot "tuple" name id) (hty : typeOf (.builtin id) = pure (.type "method_descriptor")) (hm : MtR X id r) (ho : PE X o to) (ha : PA X (e :: es) t)
    (hbase : attributeBase o name X.env (eval o X.env) = eval o X.env := by rfl)
    (hfew : ((backTo cpos (starEach (e :: es) X.env)).all (fun x => !x.1) && (backToKw cpos (keywordEach [] X.env)).all (fun x => x.1.isSome) && decide ((e :: es).length + ([] : List Keyword).length + (if ([] : List Keyword).isEmpty then 0 else 1) < 30)) = true := by rfl)
    (hline : (apos.endLine == cpos.line) = true := by rfl) (hs : starEach (e :: es) X.env = (false, eval e X.env) :: starEach es X.env := by rfl) (hplain : (backTo cpos (starEach es X.env)).any (·.1) = false := by rfl) :
    PE X (.Call (.Attribute o name apos) (e :: es) [] cpos) (tTM r to t) := by
  refine ⟨fun pins s σ H Q I h => wpAny_Call_method_late hbase hfew hline rfl (thn (ho.run pins s σ H _ I h) fun v s1 ⟨x, H1, I1, r1, ⟨b, eb, ob, xs, hz, hdn⟩, q1⟩ => ?_)⟩
  subst eb
  obtain rfl : v = Value.ref b := r1
  obtain ⟨hg, _, its, _, o2, hg2, hc2, _⟩ := (show ObjOk X.prog X.w H1 s1.heap b (.frz ob (.tup xs)) from I1.hok b _ hz)
  refine ⟨"tuple", id, pa, slot, hty, ⟨o2, hg2, hc2⟩, fun a e => ?_, ?_⟩
  · cases e
    exact ⟨ob, hg, hdn⟩
  have hA := ha.run cpos pins s1 σ H1 _ I1 q1
  rw [hs] at hA ⊢
  have hp2 : (false || (backTo cpos (starEach es X.env)).any (·.1)) = false := by rw [hplain]; rfl
  exact Calls.callWith_builtin hp2 (Calls.evalArgs_plain (thn hA fun us s2 ⟨vs, H2, I2, r2, q2⟩ => hm pins s2 σ H2 (V.ref b) vs (Value.ref b) us Q I2 (show L2.RelV (V.ref b) (Value.ref b) from rfl) r2 q2))
end
/-! ### slices and sums of tuples -/
section
variable {K : PySem.W.Frag}
theorem sIx_some {n d a : Nat} (h : a ≤ n) : HT.sIx n d (some (a : Int)) = a := by
  rw [HT.sIx_nat]
  exact Nat.min_eq_left h
theorem sl_from {H : Hp} {c : Addr} {xs : List V} {a : Nat} {Q : VK} (hc : H c = some (.tup xs)) (ha : a ≤ xs.length) (k : ∀ b H', Same H H' → H' b = some (.tup (xs.drop a)) → Q (.ref b) H') : rSlA K (.ref c) (some (a : Int)) none H Q := by
  refine ⟨c, xs, rfl, SqT.of hc, fun h => ?_, fun h p hp => ?_⟩
  · rw [sIx_some ha] at h
    refine k c H (Same.refl H) ?_
    rw [h.1, List.drop_zero]
    exact hc
  · refine k p _ (new_same hp _) ?_
    rw [upd_same]
    unfold cutV
    rw [sIx_some ha, HT.sIx_none, List.take_of_length_le (by rw [List.length_drop]; exact Nat.le_refl _)]
theorem sl_to {H : Hp} {c : Addr} {xs : List V} {a : Nat} {Q : VK} (hc : H c = some (.tup xs)) (ha : a ≤ xs.length) (k : ∀ b H', Same H H' → H' b = some (.tup (xs.take a)) → Q (.ref b) H') : rSlA K (.ref c) none (some (a : Int)) H Q := by
  refine ⟨c, xs, rfl, SqT.of hc, fun h => ?_, fun h p hp => ?_⟩
  · rw [sIx_some ha] at h
    refine k c H (Same.refl H) ?_
    rw [h.2, List.take_length]
    exact hc
  · refine k p _ (new_same hp _) ?_
    rw [upd_same]
    unfold cutV
    rw [sIx_some ha, HT.sIx_none, List.drop_zero, Nat.sub_zero]
theorem cat_any {H : Hp} {a b : Addr} {xs ys : List V} {Q : VK} (ha : H a = some (.tup xs)) (hb : H b = some (.tup ys)) (hz : xs.length + ys.length ≤ sizeLine) (k : ∀ p H', Same H H' → H' p = some (.tup (xs ++ ys)) → Q (.ref p) H') : rCatA K (.ref a) (.ref b) H Q := by
  refine ⟨a, b, xs, ys, rfl, rfl, SqT.of ha, SqT.of hb, hz, fun e => ?_, fun _ e => ?_, fun _ _ p hp => k p _ (new_same hp _) upd_same⟩
  · refine k b H (Same.refl H) ?_
    rw [e]
    exact hb
  · refine k a H (Same.refl H) ?_
    rw [e, List.append_nil]
    exact ha
end
theorem RowsAt.append {H : Hp} {as bs : List Addr} {R S : List Row} (h : RowsAt H as R) (g : RowsAt H bs S) : RowsAt H (as ++ bs) (R ++ S) := by
  refine ⟨by rw [List.length_append, List.length_append, h.len, g.len], fun i c q h1 h2 => ?_⟩
  by_cases z : i < R.length
  · rw [List.getElem?_append_left (by rw [h.len]; exact z)] at h1
    rw [List.getElem?_append_left z] at h2
    exact h.at_ i c q h1 h2
  · rw [List.getElem?_append_right (by rw [h.len]; omega), h.len] at h1
    rw [List.getElem?_append_right (by omega)] at h2
    exact g.at_ _ c q h1 h2
theorem RowsAt.take {H : Hp} {as : List Addr} {R : List Row} (h : RowsAt H as R) (n : Nat) : RowsAt H (as.take n) (R.take n) := by
  refine ⟨by rw [List.length_take, List.length_take, h.len], fun i c q h1 h2 => ?_⟩
  rw [List.getElem?_take] at h1 h2
  by_cases z : i < n
  · rw [if_pos z] at h1 h2
    exact h.at_ i c q h1 h2
  · rw [if_neg z] at h1
    cases h1
theorem RowsAt.drop {H : Hp} {as : List Addr} {R : List Row} (h : RowsAt H as R) (n : Nat) : RowsAt H (as.drop n) (R.drop n) := by
  refine ⟨by rw [List.length_drop, List.length_drop, h.len], fun i c q h1 h2 => ?_⟩
  rw [List.getElem?_drop] at h1 h2
  exact h.at_ _ c q h1 h2
theorem RowsAt.one {H : Hp} {b : Addr} {q : Row} (h : Rd H b (.tup (rV q))) : RowsAt H [b] [q] := (RowsAt.nil H).snoc h
/-! ### _law_put_in -/
def asgVal : Stmt → Expr
  | .Assign _ e _ => e
  | _ => .Constant .none 0 ⟨0, 0, 0, 0⟩
def compScope : Expr → Scope
  | .ListComp _ _ sc _ => sc
  | _ => { kind := .function, names := [], isGenerator := false, isCoroutine := false }
abbrev scPutO : Scope := compScope (asgVal ((defBody sLPutIn).getD 1 (.Pass ⟨0, 0, 0, 0⟩)))
section
variable {P : Program} {w : World} {K : PySem.W.Frag} {mg : Str → Option Value} {base : Heap}
theorem sh_int (a x : Nat) : V.int ((x : Int) + (if decide ((a : Int) + 1 < (x : Int)) = true then 1 else 0)) = nV (sh a x) := by
  unfold sh
  by_cases h : x > a + 1
  · rw [if_pos h, decide_eq_true (by omega), if_pos rfl]
    rfl
  · rw [if_neg h, decide_eq_false (by omega), if_neg (by simp)]
    show V.int ((x : Int) + 0) = V.int (x : Int)
    rw [Int.add_zero]
abbrev tInt (ta : TE) : TE := tCB (fun xs H Q => (∃ i, xs = [.int i] ∧ Q (.int i) H) ∨ ∃ k, xs = [.bl k] ∧ Q (.int (if k then 1 else 0)) H) (tCons ta tNil)
abbrev tPutI : TE := tOp (rI0 fun i j => .int (i + j)) (tVar 7) (tInt (tOp (rI0 fun i j => .bl (decide (j < i))) (tVar 7) (tOp (rI0 fun i j => .int (i + j)) (tVar 1) (tC (.int 1)))))
def spPutIn : Sp := fun vs H Q _ => ∃ (a : Addr) (n top : Nat) (c : Addr) (cs : List Addr) (R : List Row) (at_ : Nat) (b : Addr) (q : Row), vs = [.ref a, nV at_, .ref b] ∧ TelAt H a n top R c cs ∧ VR R ∧ R.length ≤ 5592405 ∧ at_ ≤ R.length ∧ Rd H b (.tup (rV q)) ∧
  ∀ (a' c' : Addr) (cs' : List Addr) (H' : Hp), Same H H' → TelAt H' a' n (sh at_ top) (putRows R at_ q) c' cs' → (∀ i b', at_ < i → cs'[i]? = some b' → FrzAt H' b') → Q (.ref a') H'
theorem ok_putin {f : Addr} {fd : FuncData} (F : FnP K "_law_put_in" "_law_put_in" sLPutIn f fd) (mT : mg "tuple" = none) (mI : mg "int" = none) : FnOk P w K mg base CX0 1 f fd ["_law_telling", "_law_at", "_law_row"] spPutIn := by
  refine okD F scLPutIn (fun vs H Q E h => ?_) (fun cdv A outer s H vs Q E hr h => ?_)
  · obtain ⟨a, n, top, c, cs, R, at_, b, q, rfl, _⟩ := h
    rfl
  obtain ⟨a, n, top, c, cs, R, at_, b, q, rfl, hT, hV, hz, hat, hb, k⟩ := h
  refine ⟨_, pss_cons (ps_asg (pv 0) (pg_tup rfl (pgs_cons (pg_name (i := 3) scLPutIn.nd rfl (.inl rfl)) (pgs_cons (pg_name (i := 4) scLPutIn.nd rfl (.inl rfl)) (pgs_cons (pg_name (i := 5) scLPutIn.nd rfl (.inl rfl)) pgs_nil)))))
    (pss_cons (ps_setLc (i := 6) (own := [("_law_old", 8)]) (g := gName 8) (tt := tYes) (te := tCB (rTupZ K) (tCons (tLc (iTup K (tVar 8)) (gName 7) tYes tPutI [7]) tNil)) rfl scLPutIn.nd rfl rfl (sw_true rfl rfl rfl (by decide +kernel)) (pi_tup (pe_slice sl_tupA (pv 5) (po_some (pv 1)) po_none))
      (blkOk_by (N := ["_law_telling", "_law_at", "_law_row", "_law_n", "_law_top", "_law_rows", "_law_later", "_law_number_here", "_law_old"]) (sc := defScope sLPutIn) (by decide +kernel)) (fun _ _ _ _ _ => pg_name (i := 8) scLPutIn.nd rfl (Or.inl rfl)) (fun _ _ _ _ _ => pts_nil)
      (fun _ _ _ _ _ => pe_callTy call_tupZ (by rfl) mT (by decide +kernel) (pa_cons (pe_lc (own := [("_law_number_here", 7)]) (g := gName 7) (tt := tYes) (te := tPutI) rfl scLPutIn.nd (pi_tup (pv 8))
        (blkOk_by (N := ["_law_telling", "_law_at", "_law_row", "_law_n", "_law_top", "_law_rows", "_law_later", "_law_number_here", "_law_old"]) (sc := relS scPutO (defScope sLPutIn)) (by decide +kernel)) (fun _ _ _ _ _ => pg_name (i := 7) scLPutIn.nd rfl (Or.inl rfl)) (fun _ _ _ _ _ => pts_nil)
        (fun _ _ _ _ _ => pe_op op_add (pv 7) (pe_callTy call_int1 (by rfl) mI (by decide +kernel) (pa_cons (pe_cmpR op_gt (pv 7) (pe_op op_add (pv 1) pe_int) (nomark _)) pa_nil)))) pa_nil)))
    (pss_one (ps_ret (pe_tup (pa_cons (pv 3) (pa_cons (pe_op op_add (pv 4) (pe_callTy call_int1 (by rfl) mI (by decide +kernel) (pa_cons (pe_cmpR op_gt (pv 4) (pe_op op_add (pv 1) pe_int) (nomark _)) pa_nil)))
      (pa_cons (pe_op op_catA (pe_op op_catA (pe_slice sl_tupA (pv 5) po_none (po_some (pv 1))) (pe_tup (pa_cons (pv 2) pa_nil))) (pe_callTy call_tuple_of (by rfl) mT (by decide +kernel) (pa_cons (pv 6) pa_nil))) pa_nil))))))), ?_⟩
  have hcl : (cs.map V.ref).length = R.length := by rw [List.length_map, hT.rows.len]
  refine ⟨_, rfl, a, _, rfl, SqT.of hT.t, rfl, _, _, rfl, _, _, rfl, _, _, rfl, rfl, ?_⟩
  refine ⟨_, rfl, _, rfl, (at_ : Int), rfl, ?_⟩
  unfold tNoPart
  dsimp only
  refine sl_from (K := K) (a := at_) hT.r (by omega) fun c2 H1 s1 hc2 => ⟨c2, rfl, ⟨_, SqT.of hc2⟩, fun D hD => ?_⟩
  rw [← List.map_drop] at hc2
  have hrows := (hT.rows.same s1).drop at_
  have hVd : ∀ r ∈ R.drop at_, r.length = 4 := fun r hr2 => by
    obtain ⟨i, hi⟩ := List.getElem?_of_mem (List.mem_of_mem_drop hr2)
    exact (hV i r hi).1
  refine lc_tup (K := K) (a := c2) (xs := (cs.drop at_).map V.ref)
    (fun i G => ∃ qs, G D = some (.lst (qs.map V.ref)) ∧ RowsAt G qs (((R.drop at_).take i).map fun r => r.map (sh at_)) ∧ (∀ q ∈ qs, FrzAt G q) ∧ Same H1 G)
    ⟨[], upd_same, RowsAt.nil _, fun _ h => by simp at h, new_same hD _⟩ (fun i G _ ⟨_, _, _, _, h⟩ => SqT.of (h _ _ hc2)) ?_ ?_
  · rintro i y G hy ⟨qs, hG, hq, hf, sG⟩
    obtain ⟨b2, r, rfl, hb2, hr2, hrd0⟩ := hrows.get2 hy
    have hrd := rd_keep hrd0 (sG b2)
    have hr4 := hVd r (List.mem_of_getElem? hr2)
    have hil : i < (R.drop at_).length := (List.getElem?_eq_some_iff.mp hr2).1
    rw [List.length_drop] at hil
    refine ⟨rfl, _, rfl, b2, rfl, ⟨_, .inl hrd⟩, fun D2 hD2 => lc_tup (K := K) (a := b2) (xs := rV r) (fun j G1 => G1 = upd G D2 (.lst ((r.take j).map fun x => nV (sh at_ x)))) rfl (fun j G1 _ e1 => ?_) ?_ ?_⟩
    · rw [e1]
      exact .inl (rd_keep hrd (new_same hD2 _ b2))
    · rintro j y G1 hy rfl
      obtain ⟨x, hx, rfl⟩ := rV_get hy
      refine ⟨rfl, _, rfl, _, rfl, _, rfl, _, _, rfl, rfl, _, _, rfl, rfl, .inr ⟨_, rfl, _, _, rfl, rfl, _, upd_same, ?_, ?_⟩⟩
      · rw [List.length_map, List.length_take]
        exact small_line (by omega)
      · rw [upd_upd]
        congr 2
        dsimp only
        rw [sh_int]
        exact (take_succ_map _ hx).symm
    · rintro G1 rfl
      have e4 : (r.take (rV r).length).map (fun x => nV (sh at_ x)) = rV (r.map (sh at_)) := by
        have z : r.take (rV r).length = r := take_all (rV_len r)
        rw [z, rV_map]
      rw [e4]
      have t1 := new_same hD2 (HO.lst (rV (r.map (sh at_))))
      refine ⟨D2, _, rfl, SqL.of upd_same, fun q2 o hq2 ho => ?_⟩
      have t2 := t1.trans (new_same hq2 (HO.frz o (.tup (rV (r.map (sh at_))))))
      have hql : qs.length = ((R.drop at_).take i).length := by rw [hq.len, List.length_map]
      have nq : q2 ≠ D := (ne_of_none (t1 _ _ hG) hq2).symm
      refine ⟨_, t2 _ _ hG, by rw [List.length_map, hql, List.length_take, List.length_drop]; exact small_line (by omega), qs ++ [q2], by rw [upd_same, List.map_append]; rfl, ?_, fun z hz2 => ?_, ?_⟩
      · rw [take_succ_map _ hr2]
        refine ((hq.same t2).tups (upd_tups (t2 _ _ hG) (.lst _))).snoc (.inr ⟨o, ?_⟩)
        rw [upd_ne nq, upd_same]
      · rcases List.mem_append.mp hz2 with h | h
        · obtain ⟨oz, xz, e1, e2⟩ := hf z h
          refine ⟨oz, xz, ?_, e2⟩
          rw [upd_ne (ne_of e1 hG (fun z => nomatch z))]
          exact t2 _ _ e1
        · have e5 : z = q2 := by simpa using h
          rw [e5]
          exact ⟨o, _, by rw [upd_ne nq, upd_same], ho⟩
      · intro b3 o3 hb3
        rw [upd_ne (ne_of_none hb3 hD)]
        exact t2 _ _ (sG _ _ hb3)
  · rintro G ⟨qs, hG, hq, hf, sG⟩
    have z : (R.drop at_).take ((cs.drop at_).map V.ref).length = R.drop at_ := take_all (by rw [List.length_map, List.length_drop, List.length_drop, hT.rows.len])
    rw [z] at hq
    have s2 := s1.trans sG
    refine ⟨_, rfl, _, rfl, _, rfl, _, rfl, _, _, rfl, rfl, _, _, rfl, rfl, .inr ⟨_, rfl, _, _, rfl, rfl, ?_⟩⟩
    dsimp only
    rw [sh_int]
    refine ⟨_, rfl, _, rfl, (at_ : Int), rfl, ?_⟩
    dsimp only
    refine sl_to (K := K) (a := at_) (s2 _ _ hT.r) (by omega) fun c3 H3 s3 hc3 => ?_
    rw [← List.map_take] at hc3
    refine ⟨_, rfl, (by decide : 1 ≤ sizeLine), fun e he => ?_⟩
    have s4 := new_same he (HO.tup [V.ref b])
    have hql : qs.length = R.length - at_ := by rw [hq.len, List.length_map, List.length_drop]
    have htl : ((cs.take at_).map V.ref).length = at_ := by rw [List.length_map, List.length_take, hT.rows.len]; omega
    refine cat_any (K := K) (s4 _ _ hc3) upd_same (by rw [htl]; exact small_line2 (by show at_ + 1 ≤ _; omega)) fun c5 H5 s5 hc5 => ?_
    have s35 := s3.trans (s4.trans s5)
    refine ⟨_, rfl, D, _, rfl, .inl ⟨SqL.of (s35 _ _ hG), fun c6 hc6 => ?_⟩⟩
    have s6 := new_same hc6 (HO.tup (qs.map V.ref))
    refine cat_any (K := K) (s6 _ _ hc5) upd_same (by rw [List.length_append, htl, List.length_map, hql]; exact small_line2 (by show at_ + 1 + (R.length - at_) ≤ _; omega)) fun c7 H7 s7 hc7 => ⟨(by decide : 3 ≤ sizeLine), fun a8 ha8 => ?_⟩
    have s8 := new_same ha8 (HO.tup [nV n, nV (sh at_ top), .ref c7])
    have s38 := s35.trans (s6.trans (s7.trans s8))
    have sAll := s2.trans s38
    refine k a8 c7 (cs.take at_ ++ [b] ++ qs) _ sAll ⟨upd_same, ?_, ?_⟩ fun i b' hi hb' => ?_
    · rw [s8 _ _ hc7, List.map_append, List.map_append]
      rfl
    · exact (((hT.rows.same sAll).take at_).append (RowsAt.one (rd_keep hb (sAll b)))).append (hq.same s38)
    · have hl2 : (cs.take at_ ++ [b]).length = at_ + 1 := by rw [List.length_append, List.length_take, hT.rows.len, List.length_singleton]; omega
      rw [List.getElem?_append_right (by omega)] at hb'
      exact (hf b' (List.mem_of_getElem? hb')).same s38
end
section
variable {P : Program} {w : World} {K : PySem.W.Frag} {mg : Str → Option Value} {base : Heap}
/-! ### _law_used -/
theorem sl_to_rd {H : Hp} {b : Addr} {xs : List V} {a : Nat} {Q : VK} (hb : Rd H b (.tup xs)) (ha : a < xs.length) (k : ∀ p, H p = none → Q (.ref p) (upd H p (.tup (xs.take a)))) : rSlA K (.ref b) none (some (a : Int)) H Q := by
  refine ⟨b, xs, rfl, .inl hb, fun h => ?_, fun h p hp => ?_⟩
  · rw [sIx_some (Nat.le_of_lt ha)] at h
    omega
  · have e : cutV xs none (some (a : Int)) = xs.take a := by
      unfold cutV
      rw [sIx_some (Nat.le_of_lt ha), HT.sIx_none, List.drop_zero, Nat.sub_zero]
    rw [e]
    exact k p hp
theorem sl_from_rd {H : Hp} {b : Addr} {xs : List V} {a : Nat} {Q : VK} (hb : Rd H b (.tup xs)) (h0 : 0 < a) (ha : a ≤ xs.length) (k : ∀ p, H p = none → Q (.ref p) (upd H p (.tup (xs.drop a)))) : rSlA K (.ref b) (some (a : Int)) none H Q := by
  refine ⟨b, xs, rfl, .inl hb, fun h => ?_, fun h p hp => ?_⟩
  · rw [sIx_some ha] at h
    omega
  · have e : cutV xs (some (a : Int)) none = xs.drop a := by
      unfold cutV
      rw [sIx_some ha, HT.sIx_none, List.take_of_length_le (by rw [List.length_drop]; exact Nat.le_refl _)]
    rw [e]
    exact k p hp
theorem first_at {r : Row} {x : Nat} (h : x ∈ r) : ∃ j : Nat, r[j]? = some x ∧ ∀ m : Nat, m < j → r[m]? ≠ some x := by
  induction r with
  | nil => simp at h
  | cons y r ih =>
    by_cases e : y = x
    · exact ⟨0, by rw [e]; rfl, fun m hm => absurd hm (Nat.not_lt_zero _)⟩
    · obtain ⟨j, h1, h2⟩ := ih ((List.mem_cons.mp h).resolve_left fun z => e z.symm)
      refine ⟨j + 1, h1, fun m hm => ?_⟩
      cases m with
      | zero => exact fun z => e (Option.some.inj z)
      | succ m => exact h2 m (by omega)
theorem inV_row (x : Nat) (r : Row) : inV (nV x) (rV r) = decide (x ∈ r) := by
  unfold inV rV
  rw [List.any_map]
  by_cases h : x ∈ r
  · rw [decide_eq_true h]
    exact List.any_eq_true.mpr ⟨x, h, beq_self_eq_true _⟩
  · rw [decide_eq_false h]
    refine List.any_eq_false.mpr fun y hy z => h ?_
    have z2 : ((y : Int) == (x : Int)) = true := z
    have z3 := eq_of_beq z2
    have z4 : y = x := by omega
    rw [← z4]
    exact hy
theorem flat_row (r : Row) : (rV r).all flatV = true := List.all_eq_true.mpr fun y h => by
  obtain ⟨_, _, rfl⟩ := List.mem_map.mp h
  rfl
def spUsed : Sp := fun vs H Q _ => ∃ (a : Addr) (n top : Nat) (c : Addr) (cs : List Addr) (R : List Row) (old new first : Nat), vs = [.ref a, nV old, nV new, nV first] ∧ TelAt H a n top R c cs ∧ VR R ∧ R.length ≤ 5592406 ∧ first ≤ R.length ∧
  (∀ i b, first ≤ i → cs[i]? = some b → FrzAt H b) ∧ ∀ (a' c' : Addr) (cs' : List Addr) (R' : List Row) (top' : Nat) (H' : Hp), Used R top new first R' top' → Same H H' → TelAt H' a' n top' R' c' cs' → Q (.ref a') H'
theorem ok_used {f : Addr} {fd : FuncData} (F : FnP K "_law_used" "_law_used" sLUsed f fd) (mR : mg "range" = none) (mL : mg "len" = none) : FnOk P w K mg base CX0 1 f fd ["_law_telling", "_law_old", "_law_new", "_law_first"] spUsed := by
  refine okD F scLUsed (fun vs H Q E h => ?_) (fun cdv A outer s H vs Q E hr h => ?_)
  · obtain ⟨a, n, top, c, cs, R, old, new, first, rfl, _⟩ := h
    rfl
  obtain ⟨a, n, top, c, cs, R, old, new, first, rfl, hT, hV, hz, hf, hfz, k⟩ := h
  refine ⟨_, pss_cons (ps_asg (pv 0) (pg_tup rfl (pgs_cons (pg_name (i := 4) scLUsed.nd rfl (.inl rfl)) (pgs_cons (pg_name (i := 5) scLUsed.nd rfl (.inl rfl)) (pgs_cons (pg_name (i := 6) scLUsed.nd rfl (.inl rfl)) pgs_nil)))))
    (pss_cons (ps_for PassesOwn.never rfl (pi_range2 (by rfl) mR (pa_cons (pv 3) (pa_cons (pe_callB call_len_seq (by rfl) mL PySem.boot_len (pa_cons (pv 6) pa_nil)) pa_nil))) (pg_name (i := 7) scLUsed.nd rfl (.inl rfl))
      (pss_one (ps_if (pt_cmpR op_in_seq (pv 1) (pe_ix ix_tup (pv 6) (pv 7) (fun _ _ => rfl)) (by rfl))
        (pss_cons (ps_set (i := 8) scLUsed.nd rfl (.inl rfl) (pe_tm PySem.F.plainAttrs_tuple PySem.F.slot_tuple_index PySem.F.type_tuple_index mt_tupIdx (pe_ix ix_tup (pv 6) (pv 7) (fun _ _ => rfl)) (pa_cons (pv 1) pa_nil)))
        (pss_one (ps_ret (pe_tup (pa_cons (pv 4) (pa_cons (pv 5) (pa_cons
          (pe_op op_catA (pe_op op_catA (pe_slice sl_tupA (pv 6) po_none (po_some (pv 7)))
            (pe_tup (pa_cons (pe_op op_catA (pe_op op_catA (pe_slice sl_tupA (pe_ix ix_tup (pv 6) (pv 7) (fun _ _ => rfl)) po_none (po_some (pv 8))) (pe_tup (pa_cons (pv 2) pa_nil))) (pe_slice sl_tupA (pe_ix ix_tup (pv 6) (pv 7) (fun _ _ => rfl)) (po_some (pe_op op_add (pv 8) pe_int)) po_none)) pa_nil)))
            (pe_slice sl_tupA (pv 6) (po_some (pe_op op_add (pv 7) pe_int)) po_none)) pa_nil))))))) pss_nil)))
    (pss_cons (ps_if (pt_cmpR op_eq (pv 5) (pv 1) (nomark _)) (pss_one (ps_ret (pe_tup (pa_cons (pv 4) (pa_cons (pv 2) (pa_cons (pv 6) pa_nil)))))) pss_nil)
    (pss_one (ps_ret (pv 0))))), ?_⟩
  have hcl : (cs.map V.ref).length = R.length := by rw [List.length_map, hT.rows.len]
  refine ⟨_, rfl, a, _, rfl, SqT.of hT.t, rfl, _, _, rfl, _, _, rfl, _, _, rfl, rfl, ?_⟩
  refine ⟨_, rfl, _, rfl, c, _, rfl, .inr (SqT.of hT.r), _, _, rfl, ⟨by omega, by omega, by omega, by omega⟩, for_range (fun i σ G => ∃ v : Option V, σ = [some (.ref a), some (nV old), some (nV new), some (nV first), some (nV n), some (nV top), some (.ref c), v, none] ∧ G = H)
    ⟨none, rfl, rfl⟩ ?_ ?_⟩
  · rintro i σ G hi ⟨v, rfl, rfl⟩
    have hk : first + i < R.length := by omega
    have hrow : R[first + i]? = some (R.getD (first + i) []) := by rw [List.getD_eq_getElem?_getD, List.getElem?_eq_getElem hk]; rfl
    obtain ⟨b, hcb, hrd⟩ := hT.rows.get hrow
    have hr4 := (hV _ _ hrow).1
    have efi : (first : Int) + (i : Int) = ((first + i : Nat) : Int) := by omega
    have hat : atI (cs.map V.ref) ((first : Int) + (i : Int)) = some (.ref b) := at_of (j := first + i) efi (by rw [List.getElem?_map, hcb]; rfl)
    revert hrow hrd hr4
    generalize hrr : R.getD (first + i) [] = r
    intro hrow hrd hr4
    have hlen : (rV r).length = 4 := by rw [rV_len, hr4]
    refine ⟨_, rfl, _, rfl, _, rfl, c, _, _, .ref b, rfl, rfl, SqT.of hT.r, hat, b, rV r, rfl, .inr (.inl hrd), rfl, flat_row r, _, rfl, ?_⟩
    rw [if_neg (by simp), inV_row]
    by_cases hm : old ∈ r
    · rw [decide_eq_true hm]
      obtain ⟨j, hj, hno⟩ := first_at hm
      have hj4 : j < 4 := by
        have := (List.getElem?_eq_some_iff.mp hj).1
        omega
      refine iteT ⟨_, rfl, _, rfl, c, _, _, .ref b, rfl, rfl, SqT.of hT.r, hat, ⟨b, rfl, hfz _ _ (by omega) hcb⟩, _, rfl, b, r.map (fun x : Nat => (x : Int)), _, j, rfl, rfl, ?_, ?_, ?_, ?_⟩
      · rw [← rV_int]
        exact .inl hrd
      · rw [List.getElem?_map, hj]
        rfl
      · intro m hmj z
        rw [List.getElem?_map] at z
        obtain ⟨x, e1, e2⟩ := Option.map_eq_some_iff.mp z
        have e3 : x = old := by omega
        exact hno m hmj (by rw [e1, e3])
      refine ⟨_, rfl, _, rfl, _, rfl, _, rfl, _, rfl, ?_⟩
      dsimp only
      rw [efi]
      refine sl_to (K := K) (a := first + i) hT.r (by omega) fun c1 H1 s1 hc1 => ?_
      refine ⟨_, rfl, _, rfl, c, _, _, .ref b, rfl, rfl, SqT.of (s1 _ _ hT.r), atI_nat (by rw [List.getElem?_map, hcb]; rfl), _, rfl, _, rfl, ?_⟩
      dsimp only
      refine sl_to_rd (K := K) (a := j) (rd_keep hrd (s1 b)) (by omega) fun c2 hc2 => ?_
      have s2 := new_same hc2 (HO.tup ((rV r).take j))
      refine ⟨_, rfl, (by decide : 1 ≤ sizeLine), fun c3 hc3 => ?_⟩
      have s3 := new_same hc3 (HO.tup [nV new])
      refine cat_any (K := K) (s3 _ _ upd_same) upd_same (by rw [List.length_take, hlen]; exact small_line2 (by show min j 4 + 1 ≤ _; omega)) fun c4 H4 s4 hc4 => ?_
      have s14 := s1.trans (s2.trans (s3.trans s4))
      refine ⟨_, rfl, _, rfl, c, _, _, .ref b, rfl, rfl, SqT.of (s14 _ _ hT.r), atI_nat (by rw [List.getElem?_map, hcb]; rfl), _, rfl, _, _, rfl, rfl, _, rfl, ?_⟩
      unfold tNoPart
      dsimp only
      have ej : (j : Int) + 1 = ((j + 1 : Nat) : Int) := by omega
      rw [ej]
      refine sl_from_rd (K := K) (a := j + 1) (rd_keep hrd (s14 b)) (by omega) (by omega) fun c5 hc5 => ?_
      have s5 := new_same hc5 (HO.tup ((rV r).drop (j + 1)))
      refine cat_any (K := K) (s5 _ _ hc4) upd_same (by rw [List.length_append, List.length_take, List.length_drop, hlen]; exact small_line2 (by show min j 4 + 1 + (4 - (j + 1)) ≤ _; omega)) fun c6 H6 s6 hc6 => ?_
      refine ⟨(by decide : 1 ≤ sizeLine), fun c7 hc7 => ?_⟩
      have s7 := new_same hc7 (HO.tup [V.ref c6])
      have s17 := s14.trans (s5.trans (s6.trans s7))
      have s27 : Same H1 _ := s2.trans (s3.trans (s4.trans (s5.trans (s6.trans s7))))
      refine cat_any (K := K) (s27 _ _ hc1) upd_same (by rw [List.length_take, hcl]; exact small_line2 (by show min (first + i) R.length + 1 ≤ _; omega)) fun c8 H8 s8 hc8 => ?_
      have s18 := s17.trans s8
      refine ⟨_, rfl, _, rfl, _, _, rfl, rfl, _, rfl, ?_⟩
      dsimp only
      have ek : ((first + i : Nat) : Int) + 1 = ((first + i + 1 : Nat) : Int) := by omega
      rw [ek]
      refine sl_from (K := K) (a := first + i + 1) (s18 _ _ hT.r) (by omega) fun c9 H9 s9 hc9 => ?_
      refine cat_any (K := K) (s9 _ _ hc8) hc9 (by rw [List.length_append, List.length_take, List.length_drop, hcl]; exact small_line2 (by show min (first + i) R.length + 1 + (R.length - (first + i + 1)) ≤ _; omega)) fun c10 H10 s10 hc10 => ⟨(by decide : 3 ≤ sizeLine), fun c11 hc11 => ?_⟩
      have s11 := new_same hc11 (HO.tup [nV n, nV top, .ref c10])
      have sAll := s18.trans (s9.trans (s10.trans s11))
      have s6e := s7.trans (s8.trans (s9.trans (s10.trans s11)))
      refine k c11 c10 (cs.take (first + i) ++ [c6] ++ cs.drop (first + i + 1)) (usedRows R (first + i) j new) top _ (.row _ j (by omega) hk hj4) sAll ⟨upd_same, ?_, ?_⟩
      · rw [s11 _ _ hc10, List.map_append, List.map_append, List.map_take, List.map_drop]
        rfl
      · refine (((hT.rows.same sAll).take (first + i)).append (RowsAt.one (.inl ?_))).append ((hT.rows.same sAll).drop (first + i + 1))
        rw [s6e _ _ hc6, hrr]
        unfold rV
        rw [List.map_append, List.map_append, List.map_take, List.map_drop]
        rfl
    · rw [decide_eq_false hm]
      exact iteF ⟨_, rfl, rfl⟩
  · rintro σ G ⟨v, rfl, rfl⟩
    refine ⟨_, rfl, _, rfl, rfl, _, rfl, ite2 (fun _ => ?_) (fun _ => ?_)⟩
    · refine ⟨_, rfl, _, rfl, _, rfl, (by decide : 3 ≤ sizeLine), fun t ht => ?_⟩
      have s1 := new_same ht (HO.tup [nV n, nV new, .ref c])
      exact k t c cs R new _ .top s1 ⟨upd_same, s1 _ _ hT.r, hT.rows.same s1⟩
    · exact ⟨_, rfl, k a c cs R top _ .same (Same.refl _) hT⟩
end
section
variable {P : Program} {w : World} {K : PySem.W.Frag} {mg : Str → Option Value} {base : Heap}
/-! ### _law_turned -/
theorem ixN_nat {n j : Nat} (h : j < n) : ixN n (j : Int) = some j := by
  unfold ixN
  rw [if_pos (by omega), if_pos (by omega), Int.toNat_natCast]
theorem ixN_of {n j : Nat} {z : Int} (e : z = (j : Int)) (h : j < n) : ixN n z = some j := by
  rw [e]
  exact ixN_nat h
theorem rgV_eq (n : Nat) : rgV 0 (n : Int) = (List.range n).map nV := by
  unfold rgV
  rw [show ((n : Int) - 0).toNat = n by omega]
  refine List.map_congr_left fun i _ => ?_
  show V.int (0 + (i : Int)) = V.int (i : Int)
  rw [Int.zero_add]
theorem sw_names {m a : Nat} (h : a + 3 < m) : (((List.range m).map nV).set (a + 2) (nV (a + 3))).set (a + 3) (nV (a + 2)) = (List.range m).map fun x => nV (sw a x) := by
  refine List.ext_getElem? fun i => ?_
  by_cases c : i < m
  · rw [List.getElem?_map, List.getElem?_range c]
    by_cases c1 : i = a + 3
    · subst c1
      rw [List.getElem?_set_self (by rw [List.length_set, List.length_map, List.length_range]; exact c)]
      show some (nV (a + 2)) = some (nV (sw a (a + 3)))
      have e : sw a (a + 3) = a + 2 := by unfold sw; rw [if_neg (by omega), if_pos rfl]
      rw [e]
    · rw [List.getElem?_set_ne (by omega)]
      by_cases c2 : i = a + 2
      · subst c2
        rw [List.getElem?_set_self (by rw [List.length_map, List.length_range]; exact c)]
        show some (nV (a + 3)) = some (nV (sw a (a + 2)))
        have e : sw a (a + 2) = a + 3 := by unfold sw; rw [if_pos rfl]
        rw [e]
      · rw [List.getElem?_set_ne (by omega), List.getElem?_map, List.getElem?_range c]
        show some (nV i) = some (nV (sw a i))
        have e : sw a i = i := by unfold sw; rw [if_neg c2, if_neg c1]
        rw [e]
  · rw [List.getElem?_eq_none (by rw [List.length_set, List.length_set, List.length_map, List.length_range]; omega), List.getElem?_eq_none (by rw [List.length_map, List.length_range]; omega)]
theorem sw_at {m a x : Nat} (h : x < m) : atI ((List.range m).map fun x => nV (sw a x)) (x : Int) = some (nV (sw a x)) := atI_nat (by
  rw [List.getElem?_map, List.getElem?_range h]
  rfl)
theorem RowsAt.set {H : Hp} {as : List Addr} {R : List Row} (h : RowsAt H as R) (i : Nat) {b : Addr} {r : Row} (e : Rd H b (.tup (rV r))) : RowsAt H (as.set i b) (R.set i r) := by
  refine ⟨by rw [List.length_set, List.length_set, h.len], fun j c q h1 h2 => ?_⟩
  by_cases z : j = i
  · subst z
    have hj : j < as.length := by
      have := (List.getElem?_eq_some_iff.mp h1).1
      rw [List.length_set] at this
      exact this
    rw [List.getElem?_set_self hj] at h1
    rw [List.getElem?_set_self (by rw [← h.len]; exact hj)] at h2
    have e1 : b = c := Option.some.inj h1
    have e2 : r = q := Option.some.inj h2
    rw [← e1, ← e2]
    exact e
  · rw [List.getElem?_set_ne (fun y => z y.symm)] at h1 h2
    exact h.at_ j c q h1 h2
theorem same3 {H : Hp} {e t : Addr} {A B C : HO} (he : H e = none) (ht : upd H e A t = none) : Same H (upd (upd (upd H e A) t B) e C) := fun b o hb => by
  rw [upd_ne (ne_of_none hb he)]
  exact new_same ht _ _ _ (new_same he _ _ _ hb)
abbrev scTurnO : Scope := compScope (asgVal ((defBody sLTurned).getD 3 (.Pass ⟨0, 0, 0, 0⟩)))
def spTurned : Sp := fun vs H Q _ => ∃ (a : Addr) (n top : Nat) (c : Addr) (cs : List Addr) (R : List Row) (k : Nat), vs = [.ref a, nV k] ∧ TelAt H a n top R c cs ∧ VR R ∧ R.length ≤ 5592405 ∧ top < R.length + 2 ∧ k + 1 < R.length ∧
  ∀ (a' c' : Addr) (cs' : List Addr) (H' : Hp), Same H H' → TelAt H' a' n (sw k top) (swRows R k) c' cs' → Q (.ref a') H'
theorem ok_turned {f : Addr} {fd : FuncData} (F : FnP K "_law_turned" "_law_turned" sLTurned f fd) (mR : mg "range" = none) (mL : mg "len" = none) (mLi : mg "list" = none) (mT : mg "tuple" = none) : FnOk P w K mg base CX0 1 f fd ["_law_telling", "_law_at"] spTurned := by
  refine okD F scLTurned (fun vs H Q E h => ?_) (fun cdv A outer s H vs Q E hr h => ?_)
  · obtain ⟨a, n, top, c, cs, R, k, rfl, _⟩ := h
    rfl
  obtain ⟨a, n, top, c, cs, R, at_, rfl, hT, hV, hz, ht, hk, k⟩ := h
  refine ⟨_, pss_cons (ps_asg (pv 0) (pg_tup rfl (pgs_cons (pg_name (i := 2) scLTurned.nd rfl (.inl rfl)) (pgs_cons (pg_name (i := 3) scLTurned.nd rfl (.inl rfl)) (pgs_cons (pg_name (i := 4) scLTurned.nd rfl (.inl rfl)) pgs_nil)))))
    (pss_cons (ps_set (i := 5) scLTurned.nd rfl (.inr rfl) (pe_listRg rfl (by rfl) mLi (prg_1 (by rfl) mR (pe_op op_add (pe_callB call_len_seq (by rfl) mL PySem.boot_len (pa_cons (pv 4) pa_nil)) pe_int))))
    (pss_cons (ps_asg (pe_tup (pa_cons (pe_op op_add (pv 1) pe_int) (pa_cons (pe_op op_add (pv 1) pe_int) pa_nil))) (pg_tup rfl (pgs_cons (pg_sub (pv 5) (pe_op op_add (pv 1) pe_int) set_list) (pgs_cons (pg_sub (pv 5) (pe_op op_add (pv 1) pe_int) set_list) pgs_nil))))
    (pss_cons (ps_setLc (i := 6) (own := [("_law_row", 8)]) (g := gName 8) (tt := tYes) (te := tCB (fun xs H Q => ∃ p ys, xs = [.ref p] ∧ ((SqL K H p ys ∧ ∀ l, H l = none → Q (.ref l) (upd H l (.tup ys))) ∨ (SqT K H p ys ∧ Q (.ref p) H))) (tCons (tLc (iTup K (tVar 8)) (gName 7) tYes (tOp (rIxL K) (tVar 5) (tVar 7)) [7]) tNil))
      rfl scLTurned.nd rfl rfl (sw_true rfl rfl rfl (by decide +kernel)) (pi_tup (pv 4))
      (blkOk_by (N := ["_law_telling", "_law_at", "_law_n", "_law_top", "_law_rows", "_law_names", "_law_swapped", "_law_number_here", "_law_row"]) (sc := defScope sLTurned) (by decide +kernel)) (fun _ _ _ _ _ => pg_name (i := 8) scLTurned.nd rfl (Or.inl rfl)) (fun _ _ _ _ _ => pts_nil)
      (fun _ _ _ _ _ => pe_callTy call_tuple_of (by rfl) mT (by decide +kernel) (pa_cons (pe_lc (own := [("_law_number_here", 7)]) (g := gName 7) (tt := tYes) (te := tOp (rIxL K) (tVar 5) (tVar 7)) rfl scLTurned.nd (pi_tup (pv 8))
        (blkOk_by (N := ["_law_telling", "_law_at", "_law_n", "_law_top", "_law_rows", "_law_names", "_law_swapped", "_law_number_here", "_law_row"]) (sc := relS scTurnO (defScope sLTurned)) (by decide +kernel)) (fun _ _ _ _ _ => pg_name (i := 7) scLTurned.nd rfl (Or.inl rfl)) (fun _ _ _ _ _ => pts_nil)
        (fun _ _ _ _ _ => pe_ix ix_list (pv 5) (pv 7) (fun _ _ => rfl))) pa_nil)))
    (pss_cons (ps_asg (pe_tup (pa_cons (pe_ix ix_list (pv 6) (pe_op op_add (pv 1) pe_int) (fun _ _ => rfl)) (pa_cons (pe_ix ix_list (pv 6) (pv 1) (fun _ _ => rfl)) pa_nil))) (pg_tup rfl (pgs_cons (pg_sub (pv 6) (pv 1) set_list) (pgs_cons (pg_sub (pv 6) (pe_op op_add (pv 1) pe_int) set_list) pgs_nil))))
    (pss_one (ps_ret (pe_tup (pa_cons (pv 2) (pa_cons (pe_ix ix_list (pv 5) (pv 3) (fun _ _ => rfl)) (pa_cons (pe_callTy call_tuple_of (by rfl) mT (by decide +kernel) (pa_cons (pv 6) pa_nil)) pa_nil)))))))))), ?_⟩
  have hcl : (cs.map V.ref).length = R.length := by rw [List.length_map, hT.rows.len]
  refine ⟨_, rfl, a, _, rfl, SqT.of hT.t, rfl, _, _, rfl, _, _, rfl, _, _, rfl, rfl, ?_⟩
  refine ⟨_, rfl, c, _, rfl, .inr (SqT.of hT.r), _, _, rfl, rfl, _, rfl, RgOk.of_le (by omega) (by omega) (by omega) (by omega), fun e he => ?_⟩
  have em : ((((cs.map V.ref).length : Nat) : Int) + 2) = ((R.length + 2 : Nat) : Int) := by omega
  dsimp only
  rw [em, rgV_eq]
  have s1 := new_same he (HO.lst ((List.range (R.length + 2)).map nV))
  -- the two names exchanged
  refine ⟨_, rfl, _, _, rfl, rfl, _, rfl, _, _, rfl, rfl, (by decide : 2 ≤ sizeLine), fun t ht2 => ?_⟩
  have s2 := new_same ht2 (HO.tup [V.int ((at_ : Int) + 3), V.int ((at_ : Int) + 2)])
  have het : e ≠ t := ne_of_none (upd_same : upd H e _ e = _) ht2
  have hE2 := s2 _ _ (upd_same : upd H e (.lst ((List.range (R.length + 2)).map nV)) e = _)
  refine ⟨t, _, rfl, SqT.of upd_same, rfl, _, _, rfl, _, rfl, _, rfl, _, _, rfl, rfl, e, _, _, at_ + 2, rfl, rfl, hE2, ixN_of (by omega) (by rw [List.length_map, List.length_range]; omega), ?_⟩
  refine ⟨_, _, rfl, _, rfl, _, rfl, _, _, rfl, rfl, e, _, _, at_ + 3, rfl, rfl, upd_same, ixN_of (by omega) (by rw [List.length_set, List.length_map, List.length_range]; omega), rfl, ?_⟩
  dsimp only
  rw [upd_upd]
  have eL : (((List.range (R.length + 2)).map nV).set (at_ + 2) (V.int ((at_ : Int) + 3))).set (at_ + 3) (V.int ((at_ : Int) + 2)) = (List.range (R.length + 2)).map fun x => nV (sw at_ x) := sw_names (by omega)
  rw [eL]
  have sH := same3 (B := HO.tup [V.int ((at_ : Int) + 3), V.int ((at_ : Int) + 2)]) (C := HO.lst ((List.range (R.length + 2)).map fun x => nV (sw at_ x))) he ht2
  refine ⟨_, rfl, c, rfl, ⟨_, SqT.of (sH _ _ hT.r)⟩, fun D hD => lc_tup (K := K) (a := c) (xs := cs.map V.ref)
    (fun i G => ∃ qs, G D = some (.lst (qs.map V.ref)) ∧ RowsAt G qs ((R.take i).map fun r => r.map (sw at_)) ∧ G e = some (.lst ((List.range (R.length + 2)).map fun x => nV (sw at_ x))) ∧ Same H G) ?_ (fun i G _ ⟨_, _, _, _, h⟩ => SqT.of (h _ _ hT.r)) ?_ ?_⟩
  · refine ⟨[], upd_same, RowsAt.nil _, ?_, sH.trans (new_same hD _)⟩
    exact new_same hD _ _ _ upd_same
  · rintro i y G hy ⟨qs, hG, hq, hE, sG⟩
    have hHD : H D = none := sH.free hD
    obtain ⟨b2, r, rfl, hb2, hr2, hrd0⟩ := hT.rows.get2 hy
    have hrd := rd_keep hrd0 (sG b2)
    obtain ⟨hr4, hrx⟩ := hV _ _ hr2
    have hil : i < R.length := (List.getElem?_eq_some_iff.mp hr2).1
    refine ⟨rfl, _, rfl, b2, rfl, ⟨_, .inl hrd⟩, fun D2 hD2 => lc_tup (K := K) (a := b2) (xs := rV r) (fun j G1 => G1 = upd G D2 (.lst ((r.take j).map fun x => nV (sw at_ x)))) rfl (fun j G1 _ e1 => ?_) ?_ ?_⟩
    · rw [e1]
      exact .inl (rd_keep hrd (new_same hD2 _ b2))
    · rintro j y G1 hy rfl
      obtain ⟨x, hx, rfl⟩ := rV_get hy
      have hxl := hrx x (List.mem_of_getElem? hx)
      refine ⟨rfl, _, rfl, _, rfl, e, _, _, nV (sw at_ x), rfl, rfl, SqL.of (new_same hD2 _ _ _ hE), sw_at (by omega), _, upd_same, ?_, ?_⟩
      · rw [List.length_map, List.length_take]
        exact small_line (by omega)
      · rw [upd_upd]
        congr 2
        exact (take_succ_map _ hx).symm
    · rintro G1 rfl
      have e4 : (r.take (rV r).length).map (fun x => nV (sw at_ x)) = rV (r.map (sw at_)) := by
        have z : r.take (rV r).length = r := take_all (rV_len r)
        rw [z, rV_map]
      rw [e4]
      have t1 := new_same hD2 (HO.lst (rV (r.map (sw at_))))
      refine ⟨D2, _, rfl, .inl ⟨SqL.of upd_same, fun q2 hq2 => ?_⟩⟩
      have t2 := t1.trans (new_same hq2 (HO.tup (rV (r.map (sw at_)))))
      have hql : qs.length = (R.take i).length := by rw [hq.len, List.length_map]
      have nq : q2 ≠ D := (ne_of_none (t1 _ _ hG) hq2).symm
      have nED : e ≠ D := ne_of_none (upd_same : upd _ e (HO.lst ((List.range (R.length + 2)).map fun x => nV (sw at_ x))) e = _) hD
      refine ⟨_, t2 _ _ hG, by rw [List.length_map, hql, List.length_take]; exact small_line (by omega), qs ++ [q2], by rw [upd_same, List.map_append]; rfl, ?_, by rw [upd_ne nED]; exact t2 _ _ hE, ?_⟩
      · rw [take_succ_map _ hr2]
        refine ((hq.same t2).tups (upd_tups (t2 _ _ hG) (.lst _))).snoc (.inl ?_)
        rw [upd_ne nq, upd_same]
      · intro b3 o3 hb3
        rw [upd_ne (ne_of_none hb3 hHD)]
        exact t2 _ _ (sG _ _ hb3)
  · rintro G ⟨qs, hG, hq, hE, sG⟩
    have hHD : H D = none := sH.free hD
    have nED : e ≠ D := ne_of_none (upd_same : upd _ e (HO.lst ((List.range (R.length + 2)).map fun x => nV (sw at_ x))) e = _) hD
    have z : R.take (cs.map V.ref).length = R := take_all hcl
    rw [z] at hq
    have hX : (R.map fun r => r.map (sw at_)) = swX R at_ := rfl
    rw [hX] at hq
    have hXl : (swX R at_).length = R.length := by unfold swX; rw [List.length_map]
    have hql : qs.length = R.length := by rw [hq.len, hXl]
    have h0 : (swX R at_)[at_]? = some ((swX R at_).getD at_ []) := by rw [List.getD_eq_getElem?_getD, List.getElem?_eq_getElem (by omega)]; rfl
    have h1 : (swX R at_)[at_ + 1]? = some ((swX R at_).getD (at_ + 1) []) := by rw [List.getD_eq_getElem?_getD, List.getElem?_eq_getElem (by omega)]; rfl
    obtain ⟨q0, hq0, rd0⟩ := hq.get h0
    obtain ⟨q1, hq1, rd1⟩ := hq.get h1
    refine ⟨_, rfl, _, rfl, _, _, rfl, rfl, D, _, _, .ref q1, rfl, rfl, SqL.of hG, at_of (j := at_ + 1) (by omega) (by rw [List.getElem?_map, hq1]; rfl), ?_⟩
    refine ⟨_, rfl, _, rfl, D, _, _, .ref q0, rfl, rfl, SqL.of hG, atI_nat (by rw [List.getElem?_map, hq0]; rfl), (by decide : 2 ≤ sizeLine), fun t3 ht3 => ?_⟩
    have s3 := new_same ht3 (HO.tup [V.ref q1, V.ref q0])
    refine ⟨t3, _, rfl, SqT.of upd_same, rfl, _, _, rfl, _, rfl, _, rfl, D, _, _, at_, rfl, rfl, s3 _ _ hG, ixN_nat (by rw [List.length_map]; omega), ?_⟩
    refine ⟨_, _, rfl, _, rfl, _, rfl, _, _, rfl, rfl, D, _, _, at_ + 1, rfl, rfl, upd_same, ixN_of (by omega) (by rw [List.length_set, List.length_map]; omega), rfl, ?_⟩
    rw [upd_upd]
    have eq : ((qs.map V.ref).set at_ (V.ref q1)).set (at_ + 1) (V.ref q0) = ((qs.set at_ q1).set (at_ + 1) q0).map V.ref := by rw [List.map_set, List.map_set]
    rw [eq]
    have hG3 := s3 _ _ hG
    have tw := upd_tups (o := HO.lst (((qs.set at_ q1).set (at_ + 1) q0).map V.ref)) hG3 (.lst _)
    have sW : Same H (upd (upd G t3 (.tup [V.ref q1, V.ref q0])) D (.lst (((qs.set at_ q1).set (at_ + 1) q0).map V.ref))) := fun b o hb => by
      rw [upd_ne (ne_of_none hb hHD)]
      exact s3 _ _ (sG _ _ hb)
    refine ⟨_, rfl, _, rfl, _, rfl, e, _, _, nV (sw at_ top), rfl, rfl, SqL.of (by rw [upd_ne nED]; exact s3 _ _ hE), sw_at (by omega), _, rfl, D, _, rfl, .inl ⟨SqL.of upd_same, fun c9 hc9 => ⟨(by decide : 3 ≤ sizeLine), fun a9 ha9 => ?_⟩⟩⟩
    have s9 := new_same hc9 (HO.tup (((qs.set at_ q1).set (at_ + 1) q0).map V.ref))
    have s10 := new_same ha9 (HO.tup [nV n, nV (sw at_ top), .ref c9])
    refine k a9 c9 ((qs.set at_ q1).set (at_ + 1) q0) _ (sW.trans (s9.trans s10)) ⟨upd_same, s10 _ _ upd_same, ?_⟩
    exact ((((hq.set at_ rd1).set (at_ + 1) rd0).same s3).tups tw).same (s9.trans s10)
end
section
variable {P : Program} {w : World} {K : PySem.W.Frag} {mg : Str → Option Value} {base : Heap}
/-! ### _law_others -/
def OddAt (H : Hp) (o : Addr) (n : Nat) : Prop := ∃ (top : Nat) (R : List Row) (c : Addr) (cs : List Addr), TelAt H o n top R c cs ∧ Odd top R
theorem OddAt.tups {H H' : Hp} {o : Addr} {n : Nat} (h : OddAt H o n) (s : Tups H H') : OddAt H' o n := by
  obtain ⟨top, R, c, cs, h1, h2⟩ := h
  exact ⟨top, R, c, cs, h1.tups s, h2⟩
/-- the list of the others so far -/
structure Oth (p : Addr) (n : Nat) (H G : Hp) (l : Addr) (os : List Addr) : Prop where
  pot : PotAt G p
  but : But p H G
  ls : G l = some (.lst (os.map V.ref))
  nl : H l = none
  odd : ∀ o ∈ os, OddAt G o n
theorem Oth.nlp {p : Addr} {n : Nat} {H G : Hp} {l : Addr} {os : List Addr} (h : Oth p n H G l os) (hp : PotAt H p) : l ≠ p := fun e => by
  obtain ⟨_, _, z, _⟩ := hp
  rw [← e, h.nl] at z
  cases z
theorem Oth.step {p : Addr} {n : Nat} {H G G2 : Hp} {l : Addr} {os : List Addr} (h : Oth p n H G l os) (hp : PotAt H p) (b : But p G G2) (q : PotAt G2 p) : Oth p n H G2 l os :=
  ⟨q, h.but.trans b, b _ _ h.ls (h.nlp hp), h.nl, fun o ho => (h.odd o ho).tups (h.pot.but b)⟩
theorem Oth.same {p : Addr} {n : Nat} {H G G2 : Hp} {l : Addr} {os : List Addr} (h : Oth p n H G l os) (hp : PotAt H p) (b : Same G G2) : Oth p n H G2 l os := h.step hp (But.of_same b) (h.pot.same b)
theorem Oth.push {p : Addr} {n : Nat} {H G : Hp} {l : Addr} {os : List Addr} (h : Oth p n H G l os) (hp : PotAt H p) {o : Addr} (ho : OddAt G o n) : Oth p n H (upd G l (.lst (os.map V.ref ++ [.ref o]))) l (os ++ [o]) := by
  have nlp := h.nlp hp
  have tw := upd_tups (o := HO.lst (os.map V.ref ++ [V.ref o])) h.ls (.lst _)
  obtain ⟨x, y, e1, e2⟩ := h.pot
  refine ⟨⟨x, y, by rw [upd_ne nlp.symm]; exact e1, e2⟩, fun b u hb nb => ?_, by rw [upd_same, List.map_append]; rfl, h.nl, fun z hz => ?_⟩
  · rw [upd_ne (ne_of_none hb h.nl)]
    exact h.but _ _ hb nb
  · rcases List.mem_append.mp hz with q | q
    · exact (h.odd z q).tups tw
    · have e : z = o := by simpa using q
      rw [e]
      exact ho.tups tw
def spOthers : Sp := fun vs H Q _ => ∃ (p a : Addr) (n top : Nat) (c : Addr) (cs : List Addr) (R : List Row), vs = [.ref p, .ref a] ∧ PotAt H p ∧ TelAt H a n top R c cs ∧ Canon top R ∧ dep R top ≤ 12 ∧ R.length ≤ 5592405 ∧
  ∀ (l : Addr) (os : List Addr) (G : Hp), Oth p n H G l os → os.length ≤ 10 → Q (.ref l) G
def rLenS (K : PySem.W.Frag) : List V → Hp → VK → Prop := fun xs H Q => ∃ p ys, xs = [.ref p] ∧ (SqL K H p ys ∨ SqT K H p ys) ∧ Q (.int ys.length) H
theorem row_ne (R : List Row) {k : Nat} (h : k < R.length) : R[k]? = some (row R (k + 2)) := by
  have e := row_get (R := R) (x := k + 2) (by omega) (by omega)
  rw [Nat.add_sub_cancel] at e
  exact e
theorem odd_put {R : List Row} {top a pl : Nat} (c : Canon top R) (hz : R.length ≤ 5592405) (ha : a ≤ R.length) (hp : pl ≤ 1) : VR (putRows R a [pl, pl, pl, pl]) ∧ Odd (sh a top) (putRows R a [pl, pl, pl, pl]) := by
  have hpl : Plain [pl, pl, pl, pl] := by
    match pl, hp with
    | 0, _ => exact .inl rfl
    | 1, _ => exact .inr rfl
  have V := putRows_vr (q := [pl, pl, pl, pl]) c.wf.v ha rfl (fun x hx => by
    have e : x = pl := by simpa using hx
    omega)
  exact ⟨V, odd_plain V (put_top ha c.lt) (by rw [putRows_len ha]; omega) (putRows_at ha _) hpl⟩
theorem odd_put_used {R R' : List Row} {top top' a pl : Nat} (c : Canon top R) (hz : R.length ≤ 5592405) (ha : a ≤ R.length) (hp : pl ≤ 1) (u : Used (putRows R a [pl, pl, pl, pl]) (sh a top) (a + 2) (a + 1) R' top') : Odd top' R' := by
  have hpl : Plain [pl, pl, pl, pl] := by
    match pl, hp with
    | 0, _ => exact .inl rfl
    | 1, _ => exact .inr rfl
  have V := (odd_put c hz ha hp).1
  obtain ⟨h1, h2, h3, h4⟩ := u.ok V (put_top ha c.lt) (by omega) (by rw [putRows_len ha]; omega)
  exact odd_plain h1 h2 (by rw [h3, putRows_len ha]; omega) (by rw [h4 a (by omega)]; exact putRows_at ha _) hpl
theorem twice_rows {R : List Row} {k : Nat} (hk : k < R.length) : (putRows R (k + 1) (row R (k + 2)))[k]? = some (row R (k + 2)) ∧ (putRows R (k + 1) (row R (k + 2)))[k + 1]? = some (row R (k + 2)) :=
  ⟨by rw [putRows_lt (by omega) _ (by omega)]; exact row_ne R hk, putRows_at (by omega) _⟩
theorem twice_vr {R : List Row} {k : Nat} (V : VR R) (hk : k < R.length) : VR (putRows R (k + 1) (row R (k + 2))) :=
  putRows_vr V (by omega) (row_len V (by omega) (by omega)) (fun x hx => by
    have := row_lt V (by omega) (by omega) hx
    omega)
theorem odd_twice_put {R : List Row} {top k : Nat} (c : Canon top R) (hz : R.length ≤ 5592405) (hk : k < R.length) : Odd (sh (k + 1) top) (putRows R (k + 1) (row R (k + 2))) :=
  odd_twice (twice_vr c.wf.v hk) (put_top (by omega) c.lt) (by rw [putRows_len (by omega)]; omega) (twice_rows hk).1 (twice_rows hk).2 (by omega)
theorem odd_twice_used {R R' : List Row} {top top' k : Nat} (c : Canon top R) (hz : R.length ≤ 5592405) (hk : k < R.length) (u : Used (putRows R (k + 1) (row R (k + 2))) (sh (k + 1) top) (k + 3) (k + 2) R' top') : Odd top' R' := by
  obtain ⟨h1, h2, h3, h4⟩ := u.ok (twice_vr c.wf.v hk) (put_top (by omega) c.lt) (by omega) (by rw [putRows_len (by omega)]; omega)
  exact odd_twice h1 h2 (by rw [h3, putRows_len (by omega)]; omega) (by rw [h4 k (by omega)]; exact (twice_rows hk).1) (by rw [h4 (k + 1) (by omega)]; exact (twice_rows hk).2) (by omega)
theorem ok_others {f : Addr} {fd : FuncData} (F : FnP K "_law_others" "_law_others" sLOthers f fd) (mR : mg "range" = none) (mL : mg "len" = none) (mT : mg "tuple" = none)
    (cD : Cal P w K mg base 1 "_law_digit" ["_law_pot_here", "_law_many"] spDigit) (cP : Cal P w K mg base 1 "_law_put_in" ["_law_telling", "_law_at", "_law_row"] spPutIn)
    (cU : Cal P w K mg base 1 "_law_used" ["_law_telling", "_law_old", "_law_new", "_law_first"] spUsed) (cT : Cal P w K mg base 1 "_law_turned" ["_law_telling", "_law_at"] spTurned) : FnOk P w K mg base CX0 2 f fd ["_law_pot_here", "_law_shape_here"] spOthers := by
  obtain ⟨fD, dD, GD, gD, kD, bD⟩ := cD
  obtain ⟨fP, dP, GP, gP, kP, bP⟩ := cP
  obtain ⟨fU, dU, GU, gU, kU, bU⟩ := cU
  obtain ⟨fT, dT, GT, gT, kT, bT⟩ := cT
  refine okD F scLOthers (fun vs H Q E h => ?_) (fun cdv A outer s H vs Q E hr h => ?_)
  · obtain ⟨p, a, n, top, c, cs, R, rfl, _⟩ := h
    rfl
  obtain ⟨p, a, n, top, c, cs, R, rfl, hp, hT, hC, hd, hz, k⟩ := h
  have hV := hC.wf.v
  have hcl : (cs.map V.ref).length = R.length := by rw [List.length_map, hT.rows.len]
  -- the two rows in turn, and the end
  have tail6 : ∃ t, PSs (cxOf CX0 P w K mg base ["_law_pot_here", "_law_shape_here", "_law_n", "_law_top", "_law_rows", "_law_at", "_law_plain", "_law_found", "_law_k", "_law_twice", "_law_j"] "_law_others" (defScope sLOthers) f cdv A outer s H E).nox ((defBody sLOthers).drop 6) t ∧
      ∀ (v5 v6 v8 v9 v10 : Option V) (l : Addr) (os : List Addr) (G : Hp), Oth p n H G l os → os.length ≤ 9 →
        t { nx := fun _ H' => Q .non H', rt := Q } [some (.ref p), some (.ref a), some (nV n), some (nV top), some (.ref c), v5, v6, some (.ref l), v8, v9, v10] G := by
    refine ⟨_, pss_cons (ps_if (pt_cmpR op_gt (pe_callB call_len_seq (by rfl) mL PySem.boot_len (pa_cons (pv 4) pa_nil)) pe_int (nomark _))
        (pss_cons (ps_set (i := 8) scLOthers.nd rfl (.inl rfl) (pe_call GD hr rfl gD kD bD .nil pass0 (pa_cons (pv 0) (pa_cons (pe_op op_sub (pe_callB call_len_seq (by rfl) mL PySem.boot_len (pa_cons (pv 4) pa_nil)) pe_int) pa_nil))))
        (pss_one (ps_if (pt_cmpR op_notIn_seq (pe_op op_add (pv 8) pe_int) (pe_ix ix_tup (pv 4) (pe_op op_add (pv 8) pe_int) (fun _ _ => rfl)) (by rfl))
          (pss_one (ps_expr (pe_bm PySem.F.plainAttrs_list PySem.F.slot_list_append PySem.F.type_list_append mt_append (pv 7) (pa_cons (pe_call GT hr rfl gT kT bT .nil pass0 (pa_cons (pv 1) (pa_cons (pv 8) pa_nil))) pa_nil)))) pss_nil))) pss_nil)
      (pss_one (ps_ret (pv 7))), fun v5 v6 v8 v9 v10 l os G hO hos => ?_⟩
    have tG := hp.but hO.but
    refine ⟨_, rfl, c, _, rfl, .inr (SqT.of (tG.tup hT.r)), _, _, rfl, rfl, _, rfl, ite2 (fun h1 => ?_) (fun _ => ⟨_, rfl, k l os G hO (by omega)⟩)⟩
    have h2 : (1 : Int) < (((cs.map V.ref).length : Nat) : Int) := of_decide_eq_true h1
    rw [hcl] at h2
    refine ⟨_, rfl, _, rfl, c, _, rfl, .inr (SqT.of (tG.tup hT.r)), _, _, rfl, rfl, p, _, rfl, hO.pot, by rw [hcl]; omega, by rw [hcl]; omega, fun d G2 d0 d1 q2 b2 => ?_⟩
    rw [hcl] at d1
    have hO2 := hO.step hp b2 q2
    have tG2 := hp.but hO2.but
    obtain ⟨m, rfl⟩ : ∃ m : Nat, d = (m : Int) := ⟨d.toNat, by omega⟩
    have hm : m + 1 < R.length := by omega
    have hrow := row_ne R hm
    obtain ⟨b, hcb, hrd0⟩ := hT.rows.get hrow
    have hrd := tG2.rd hrd0
    refine ⟨_, rfl, _, _, rfl, rfl, _, rfl, _, rfl, _, _, rfl, rfl, c, _, _, .ref b, rfl, rfl, SqT.of (tG2.tup hT.r), at_of (j := m + 1) (by omega) (by rw [List.getElem?_map, hcb]; rfl), b, _, rfl, .inr (.inl hrd), rfl, flat_row _, _, rfl, ?_⟩
    rw [if_pos rfl]
    have ei : inV (V.int ((m : Int) + 2)) (rV (row R (m + 1 + 2))) = decide (m + 2 ∈ row R (m + 3)) := inV_row (m + 2) _
    dsimp only
    rw [ei]
    by_cases hmem : m + 2 ∈ row R (m + 3)
    · rw [decide_eq_true hmem]
      exact iteF ⟨_, rfl, k l os G2 hO2 (by omega)⟩
    · rw [decide_eq_false hmem]
      refine iteT ⟨_, rfl, .inl ⟨rfl, _, SqL.of hO2.ls⟩, _, rfl, _, rfl, a, n, top, c, cs, R, m, rfl, hT.tups tG2, hV, hz, hC.lt, hm, fun a2 c2 cs2 G3 s3 hT3 => ?_⟩
      have hO3 := hO2.same hp s3
      refine ⟨l, _, _, rfl, rfl, hO3.ls, by rw [List.length_map]; exact small_line (by omega), ?_⟩
      exact ⟨_, rfl, k l _ _ (hO3.push hp ⟨_, _, c2, cs2, hT3, odd_turned hC (by omega) hd hm hmem⟩) (by rw [List.length_append, List.length_singleton]; omega)⟩
  -- a row told twice, a row that nobody uses
  obtain ⟨t6, p6, h6⟩ := tail6
  have tail5 : ∃ t, PSs (cxOf CX0 P w K mg base ["_law_pot_here", "_law_shape_here", "_law_n", "_law_top", "_law_rows", "_law_at", "_law_plain", "_law_found", "_law_k", "_law_twice", "_law_j"] "_law_others" (defScope sLOthers) f cdv A outer s H E).nox ((defBody sLOthers).drop 5) t ∧
      ∀ (v5 v6 v8 v9 v10 : Option V) (l : Addr) (os : List Addr) (G : Hp), Oth p n H G l os → os.length ≤ 4 →
        t { nx := fun _ H' => Q .non H', rt := Q } [some (.ref p), some (.ref a), some (nV n), some (nV top), some (.ref c), v5, v6, some (.ref l), v8, v9, v10] G := by
    refine ⟨_, pss_cons (ps_if (pt_cmpR (op_neD hr.units) (pv 4) (pe_tup pa_nil) (nomark _))
        (pss_cons (ps_set (i := 8) scLOthers.nd rfl (.inl rfl) (pe_call GD hr rfl gD kD bD .nil pass0 (pa_cons (pv 0) (pa_cons (pe_callB call_len_seq (by rfl) mL PySem.boot_len (pa_cons (pv 4) pa_nil)) pa_nil))))
        (pss_cons (ps_set (i := 9) scLOthers.nd rfl (.inl rfl) (pe_call GP hr rfl gP kP bP .nil pass0 (pa_cons (pv 1) (pa_cons (pe_op op_add (pv 8) pe_int) (pa_cons (pe_ix ix_tup (pv 4) (pv 8) (fun _ _ => rfl)) pa_nil)))))
        (pss_cons (ps_set (i := 7) scLOthers.nd rfl (.inl rfl) (pe_op op_cat (pv 7) (pe_lst (pa_cons (pv 9) (pa_cons (pe_call GU hr rfl gU kU bU .nil pass0 (pa_cons (pv 9) (pa_cons (pe_op op_add (pv 8) pe_int) (pa_cons (pe_op op_add (pv 8) pe_int) (pa_cons (pe_op op_add (pv 8) pe_int) pa_nil))))) pa_nil)))))
        (pss_one (ps_expr (pe_bm PySem.F.plainAttrs_list PySem.F.slot_list_append PySem.F.type_list_append mt_append (pv 7) (pa_cons (pe_call GP hr rfl gP kP bP .nil pass0 (pa_cons (pv 1) (pa_cons (pe_callB call_len_seq (by rfl) mL PySem.boot_len (pa_cons (pv 4) pa_nil))
          (pa_cons (pe_callTy call_tuple_of (by rfl) mT (by decide +kernel) (pa_cons (pe_lc (own := [("_law_j", 10)]) (g := gName 10) (tt := tYes) (te := tCall spDigit [] E0 (tCons (tVar 0) (tCons (tOp (rI0 fun i j => .int (i + j)) (tCB (rLenS K) (tCons (tVar 4) tNil)) (tC (.int 2))) tNil))) rfl scLOthers.nd (pi_range1 (by rfl) mR (pa_cons pe_int pa_nil))
            (blkOk_by (N := ["_law_pot_here", "_law_shape_here", "_law_n", "_law_top", "_law_rows", "_law_at", "_law_plain", "_law_found", "_law_k", "_law_twice", "_law_j"]) (sc := defScope sLOthers) (by decide +kernel)) (fun _ _ _ _ _ => pg_name (i := 10) scLOthers.nd rfl (Or.inl rfl)) (fun _ _ _ _ _ => pts_nil)
            (fun _ _ _ _ _ => pe_call GD hr rfl gD kD bD .nil pass0 (pa_cons (pv 0) (pa_cons (pe_op op_add (pe_callB call_len_seq (by rfl) mL PySem.boot_len (pa_cons (pv 4) pa_nil)) pe_int) pa_nil)))) pa_nil)) pa_nil)))) pa_nil))))))) pss_nil)
      p6, fun v5 v6 v8 v9 v10 l os G hO hos => ?_⟩
    have tG := hp.but hO.but
    refine ⟨_, rfl, (by decide : 0 ≤ sizeLine), fun e he => ?_⟩
    have s0 := new_same he (HO.tup [])
    refine ⟨.tuple (R.map rD), .tuple [], .tup (SqT.of (s0 _ _ (tG.tup hT.r))) (dp_rows ((hT.rows.tups tG).same s0)), .tup (SqT.of upd_same) .nil, rDs_shaped R, shaped_of rfl (by decide), _, rfl, ?_⟩
    have ev : PyData.eqv (.tuple (R.map rD)) (.tuple []) = decide (R = []) := rDs_eqv R []
    rw [ev]
    have hO0 := hO.same hp s0
    by_cases hR : R = []
    · rw [decide_eq_true hR]
      exact iteF (h6 _ _ _ _ _ l os _ hO0 (by omega))
    rw [decide_eq_false hR]
    have hRl : 0 < R.length := List.length_pos_iff.mpr hR
    have t0 := hp.but hO0.but
    refine iteT ⟨_, rfl, _, rfl, c, _, rfl, .inr (SqT.of (t0.tup hT.r)), p, _, rfl, hO0.pot, by rw [hcl]; omega, by rw [hcl]; omega, fun d G2 d0 d1 q2 b2 => ?_⟩
    rw [hcl] at d1
    have hO2 := hO0.step hp b2 q2
    have tG2 := hp.but hO2.but
    obtain ⟨m, rfl⟩ : ∃ m : Nat, d = (m : Int) := ⟨d.toNat, by omega⟩
    have hm : m < R.length := by omega
    obtain ⟨b, hcb, hrd0⟩ := hT.rows.get (row_ne R hm)
    refine ⟨_, rfl, _, rfl, _, _, rfl, rfl, _, rfl, _, rfl, c, _, _, .ref b, rfl, rfl, SqT.of (tG2.tup hT.r), atI_nat (by rw [List.getElem?_map, hcb]; rfl),
      a, n, top, c, cs, R, m + 1, b, row R (m + 2), rfl, hT.tups tG2, hV, hz, by omega, tG2.rd hrd0, fun a3 c3 cs3 G3 s3 hT3 hf3 => ?_⟩
    have hO3 := hO2.same hp s3
    have tG3 := hp.but hO3.but
    refine ⟨_, rfl, _, rfl, _, rfl, _, rfl, _, _, rfl, rfl, _, rfl, _, _, rfl, rfl, _, rfl, _, _, rfl, rfl,
      a3, n, _, c3, cs3, _, m + 2, m + 3, m + 2, rfl, hT3, twice_vr hV hm, by rw [putRows_len (by omega)]; omega, by rw [putRows_len (by omega)]; omega, fun i b' hi hb' => hf3 i b' (by omega) hb', fun a4 c4 cs4 R4 top4 G4 hu4 s4 hT4 => ?_⟩
    have hO4 := hO3.same hp s4
    refine ⟨(by decide : 2 ≤ sizeLine), fun l5 hl5 => ?_⟩
    have s5 := new_same hl5 (HO.lst [V.ref a3, V.ref a4])
    have hO5 := hO4.same hp s5
    refine ⟨l, l5, _, _, rfl, rfl, hO5.ls, upd_same, by rw [List.length_map]; exact small_line2 (by show os.length + 2 ≤ _; omega), fun l6 hl6 => ?_⟩
    have s6 := new_same hl6 (HO.lst (os.map V.ref ++ [V.ref a3, V.ref a4]))
    have hO6a := hO5.same hp s6
    have hHl6 : H l6 = none := by
      refine hO5.but.none (fun z => ?_) hl6
      obtain ⟨_, _, z2, _⟩ := hO5.pot
      rw [z, z2] at hl6
      cases hl6
    have hO6 : Oth p n H (upd (upd G4 l5 (.lst [V.ref a3, V.ref a4])) l6 (.lst (os.map V.ref ++ [V.ref a3, V.ref a4]))) l6 (os ++ [a3, a4]) := by
      refine ⟨hO6a.pot, hO6a.but, by rw [upd_same, List.map_append]; rfl, hHl6, fun z hz2 => ?_⟩
      rcases List.mem_append.mp hz2 with h | h
      · exact hO6a.odd z h
      · have e : z = a3 ∨ z = a4 := by simpa using h
        rcases e with e | e
        · rw [e]
          exact ⟨_, _, c3, cs3, hT3.tups (Same.tups (s4.trans (s5.trans s6))), odd_twice_put hC hz hm⟩
        · rw [e]
          exact ⟨_, _, c4, cs4, hT4.tups (Same.tups (s5.trans s6)), odd_twice_used hC hz hm hu4⟩
    have tG6 := hp.but hO6.but
    refine ⟨_, rfl, .inl ⟨rfl, _, SqL.of hO6.ls⟩, _, rfl, _, rfl, c, _, rfl, .inr (SqT.of (tG6.tup hT.r)), 4, rfl, by decide, by decide, fun D hD => lc_range (lo := 0) (n := 4)
      (fun i G7 => ∃ xs : List Nat, G7 D = some (.lst (xs.map nV)) ∧ xs.length = i ∧ (∀ x ∈ xs, x < R.length + 2) ∧ Oth p n H G7 l6 (os ++ [a3, a4])) ?_ ?_ ?_⟩
    · exact ⟨[], upd_same, rfl, fun _ h => by simp at h, hO6.same hp (new_same hD _)⟩
    · rintro i G7 hi ⟨xs, hx, hxl, hxs, hO7⟩
      have tG7 := hp.but hO7.but
      refine ⟨rfl, _, rfl, _, rfl, c, _, rfl, .inr (SqT.of (tG7.tup hT.r)), _, _, rfl, rfl, p, _, rfl, hO7.pot, by rw [hcl]; omega, by rw [hcl]; omega, fun d8 G8 d80 d81 q8 b8 => ?_⟩
      rw [hcl] at d81
      obtain ⟨x, rfl⟩ : ∃ x : Nat, d8 = (x : Int) := ⟨d8.toNat, by omega⟩
      have nDp : D ≠ p := fun z => by
        obtain ⟨_, _, z2, _⟩ := hO6.pot
        rw [← z, hD] at z2
        cases z2
      have hO8 := hO7.step hp b8 q8
      have hx8 := b8 _ _ hx nDp
      have hHD : H D = none := hO6.but.none nDp hD
      have nDl : l6 ≠ D := ne_of_none hO6.ls hD
      refine ⟨_, hx8, by rw [List.length_map, hxl]; exact small_line (by omega), xs ++ [x], by rw [upd_same, List.map_append]; rfl, by rw [List.length_append, hxl]; rfl, fun y hy => ?_, ?_⟩
      · rcases List.mem_append.mp hy with h | h
        · exact hxs y h
        · have e : y = x := by simpa using h
          omega
      · have tw := upd_tups (o := HO.lst (xs.map nV ++ [nV x])) hx8 (.lst _)
        obtain ⟨x1, y1, e1, e2⟩ := hO8.pot
        refine ⟨⟨x1, y1, by rw [upd_ne nDp.symm]; exact e1, e2⟩, fun b3 u hb3 nb3 => ?_, by rw [upd_ne nDl]; exact hO8.ls, hO8.nl, fun z hz3 => (hO8.odd z hz3).tups tw⟩
        rw [upd_ne (ne_of_none hb3 hHD)]
        exact hO8.but _ _ hb3 nb3
    · rintro G7 ⟨xs, hx, hxl, hxs, hO7⟩
      refine ⟨D, _, rfl, .inl ⟨SqL.of hx, fun q9 hq9 => ?_⟩⟩
      have s9 := new_same hq9 (HO.tup (xs.map nV))
      have hO9 := hO7.same hp s9
      have tG9 := hp.but hO9.but
      refine ⟨a, n, top, c, cs, R, R.length, q9, xs, ?_, hT.tups tG9, hV, hz, Nat.le_refl _, .inl upd_same, fun a10 c10 cs10 G10 s10 hT10 _ => ?_⟩
      · rw [hcl]
        rfl
      have hO10 := hO9.same hp s10
      refine ⟨l6, _, _, rfl, rfl, hO10.ls, by rw [List.length_map, List.length_append]; exact small_line (by show os.length + 2 ≤ _; omega), ?_⟩
      exact h6 _ _ _ _ _ l6 _ _ (hO10.push hp ⟨_, _, c10, cs10, hT10, odd_spare hV hC.lt hz hxl hxs⟩) (by rw [List.length_append, List.length_append]; show os.length + 2 + 1 ≤ 9; omega)
  -- a plain row put in
  obtain ⟨t5, p5, h5⟩ := tail5
  refine ⟨_, pss_cons (ps_asg (pv 1) (pg_tup rfl (pgs_cons (pg_name (i := 2) scLOthers.nd rfl (.inl rfl)) (pgs_cons (pg_name (i := 3) scLOthers.nd rfl (.inl rfl)) (pgs_cons (pg_name (i := 4) scLOthers.nd rfl (.inr rfl)) pgs_nil)))))
    (pss_cons (ps_set (i := 5) scLOthers.nd rfl (.inl rfl) (pe_call GD hr rfl gD kD bD .nil pass0 (pa_cons (pv 0) (pa_cons (pe_op op_add (pe_callB call_len_seq (by rfl) mL PySem.boot_len (pa_cons (pv 4) pa_nil)) pe_int) pa_nil))))
    (pss_cons (ps_set (i := 6) scLOthers.nd rfl (.inl rfl) (pe_call GD hr rfl gD kD bD .nil pass0 (pa_cons (pv 0) (pa_cons pe_int pa_nil))))
    (pss_cons (ps_set (i := 7) scLOthers.nd rfl (.inl rfl) (pe_lst (pa_cons (pe_call GP hr rfl gP kP bP .nil pass0 (pa_cons (pv 1) (pa_cons (pv 5) (pa_cons (pe_tup (pa_cons (pv 6) (pa_cons (pv 6) (pa_cons (pv 6) (pa_cons (pv 6) pa_nil))))) pa_nil)))) pa_nil)))
    (pss_cons (ps_if (pt_cmpR op_gt (pv 2) pe_int (nomark _)) (pss_one (ps_expr (pe_bm PySem.F.plainAttrs_list PySem.F.slot_list_append PySem.F.type_list_append mt_append (pv 7) (pa_cons
        (pe_call GU hr rfl gU kU bU .nil pass0 (pa_cons (pe_ix ix_list (pv 7) pe_int (fun _ _ => rfl)) (pa_cons (pv 6) (pa_cons (pe_op op_add (pv 5) pe_int) (pa_cons (pe_op op_add (pv 5) pe_int) pa_nil))))) pa_nil)))) pss_nil)
      p5)))), ?_⟩
  refine ⟨_, rfl, a, _, rfl, SqT.of hT.t, rfl, _, _, rfl, _, _, rfl, _, _, rfl, rfl, ?_⟩
  refine ⟨_, rfl, _, rfl, c, _, rfl, .inr (SqT.of hT.r), _, _, rfl, rfl, p, _, rfl, hp, by rw [hcl]; omega, by rw [hcl]; omega, fun d1 G1 d10 d11 p1 b1 => ?_⟩
  rw [hcl] at d11
  obtain ⟨m, rfl⟩ : ∃ m : Nat, d1 = (m : Int) := ⟨d1.toNat, by omega⟩
  have hm : m ≤ R.length := by omega
  refine ⟨_, rfl, p, 2, rfl, p1, by decide, by decide, fun d2 G2 d20 d21 p2 b2 => ?_⟩
  obtain ⟨pl, rfl⟩ : ∃ pl : Nat, d2 = (pl : Int) := ⟨d2.toNat, by omega⟩
  have hpl : pl ≤ 1 := by omega
  have b12 := b1.trans b2
  have t12 := hp.but b12
  refine ⟨_, rfl, _, rfl, _, rfl, _, rfl, _, rfl, _, rfl, (by decide : 4 ≤ sizeLine), fun e3 he3 => ?_⟩
  have s3 := new_same he3 (HO.tup (rV [pl, pl, pl, pl]))
  refine ⟨a, n, top, c, cs, R, m, e3, [pl, pl, pl, pl], rfl, (hT.tups t12).tups (Same.tups s3), hV, hz, hm, .inl upd_same, fun a4 c4 cs4 G4 s4 hT4 hf4 => ⟨(by decide : 1 ≤ sizeLine), fun l hl => ?_⟩⟩
  have s5 := new_same hl (HO.lst [V.ref a4])
  have s35 := s3.trans (s4.trans s5)
  have hlp : l ≠ p := fun z => by
    obtain ⟨_, _, z2, _⟩ := p2
    have z3 := s4 _ _ (s3 _ _ z2)
    rw [← z, hl] at z3
    cases z3
  have hHl : H l = none := by
    have z : G2 l = none := (s3.trans s4).free hl
    exact b12.none hlp z
  have hO : Oth p n H (upd G4 l (.lst [V.ref a4])) l [a4] := ⟨p2.same s35, b12.trans (But.of_same s35), upd_same, hHl, fun z hz2 => by
    have e : z = a4 := by simpa using hz2
    rw [e]
    exact ⟨_, _, c4, cs4, hT4.tups (Same.tups s5), (odd_put hC hz hm hpl).2⟩⟩
  refine ⟨_, rfl, _, _, rfl, rfl, _, rfl, ite2 (fun _ => ?_) (fun _ => h5 _ _ _ _ _ l [a4] _ hO (by show 1 ≤ 4; decide))⟩
  refine ⟨_, rfl, .inl ⟨rfl, _, SqL.of hO.ls⟩, _, rfl, l, _, 0, .ref a4, rfl, rfl, SqL.of hO.ls, atI_nat (j := 0) rfl, _, rfl, _, rfl, _, _, rfl, rfl, _, rfl, _, _, rfl, rfl,
    a4, n, _, c4, cs4, _, pl, m + 2, m + 1, rfl, hT4.tups (Same.tups s5), (odd_put hC hz hm hpl).1, by rw [putRows_len hm]; omega, by rw [putRows_len hm]; omega, fun i b' hi hb' => (hf4 i b' (by omega) hb').same s5, fun a6 c6 cs6 R6 top6 G6 hu6 s6 hT6 => ?_⟩
  have hO6 := hO.same hp s6
  refine ⟨l, _, _, rfl, rfl, hO6.ls, by rw [List.length_map]; exact small_line (by show 1 ≤ _; omega), ?_⟩
  exact h5 _ _ _ _ _ l _ _ (hO6.push hp ⟨_, _, c6, cs6, hT6, odd_put_used hC hz hm hpl hu6⟩) (by rw [List.length_append]; show 2 ≤ 4; decide)
end
section
variable {P : Program} {w : World} {K : PySem.W.Frag} {mg : Str → Option Value} {base : Heap}
/-! ### law -/
def forBody : Stmt → List Stmt
  | .For _ _ b _ _ => b
  | _ => []
def spLaw (K : PySem.W.Frag) : Sp := fun vs H Q _ => ∃ (a : Addr) (ns : List Int), vs = [.ref a] ∧ SqL K H a (ns.map V.int) ∧ ns.length ≤ 63 ∧ ∀ H', Q (.bl true) H'
theorem one_full : oneOf 1 [] = (1, []) := rfl
theorem eqv_self (n top : Nat) (R : List Row) : PyData.eqv (tD n top R) (tD n top R) = true := by
  rw [tD_eqv, decide_eq_true rfl, decide_eq_true rfl, decide_eq_true rfl]
  rfl
theorem turns_ok (m : Nat) : -(2 ^ 62) ≤ (if (if (m : Int) < 8 then (m : Int) else 8) > 1 then (if (m : Int) < 8 then (m : Int) else 8) else 1) ∧ (if (if (m : Int) < 8 then (m : Int) else 8) > 1 then (if (m : Int) < 8 then (m : Int) else 8) else 1) < 2 ^ 62 ∧
    (if (if (m : Int) < 8 then (m : Int) else 8) > 1 then (if (m : Int) < 8 then (m : Int) else 8) else 1).toNat ≤ 8 := by
  by_cases h : (m : Int) < 8
  · rw [if_pos h]
    by_cases h2 : (m : Int) > 1
    · rw [if_pos h2]
      omega
    · rw [if_neg h2]
      decide
  · rw [if_neg h]
    decide
theorem ok_law {f : Addr} {fd : FuncData} (F : FnP K "law" "law" sLaw f fd) (mR : mg "range" = none) (mL : mg "len" = none) (mMx : mg "max" = none) (mMn : mg "min" = none)
    (cPot : Cal P w K mg base 1 "_law_pot" ["_law_script", "_law_k"] (spPot K)) (cD : Cal P w K mg base 1 "_law_digit" ["_law_pot_here", "_law_many"] spDigit)
    (cBx : Cal P w K mg base 3 "_law_boxes" ["_law_pot_here", "_law_n"] spBoxes) (cLS : Cal P w K mg base 15 "_law_shape" ["_law_n", "_law_boxes_here"] spLShape)
    (cIS : Cal P w K mg base 17 "is_shape" ["thing"] spIsShape) (cIT : Cal P w K mg base 4 "is_telling" ["thing"] spIsTel) (cO : Cal P w K mg base 2 "_law_others" ["_law_pot_here", "_law_shape_here"] spOthers)
    (cDp : Cal P w K mg base 1 "_law_deep" ["_law_telling"] spDeep) (cE : Cal P w K mg base 4 "empty" ["n"] (spPlainTel 0)) (cF : Cal P w K mg base 4 "full" ["n"] (spPlainTel 1)) : FnOk P w K mg base CX0 18 f fd ["_law_script"] (spLaw K) := by
  obtain ⟨fPo, dPo, GPo, gPo, kPo, bPo⟩ := cPot
  obtain ⟨fD, dD, GD, gD, kD, bD⟩ := cD
  obtain ⟨fB, dB, GB, gB, kB, bB⟩ := cBx
  obtain ⟨fL, dL, GL, gL, kL, bL⟩ := cLS
  obtain ⟨fS, dS, GS, gS, kS, bS⟩ := cIS
  obtain ⟨fT, dT, GT, gT, kT, bT⟩ := cIT
  obtain ⟨fO, dO, GO, gO, kO, bO⟩ := cO
  obtain ⟨fP, dP, GP, gP, kP, bP⟩ := cDp
  obtain ⟨fE, dE, GE, gE, kE, bE⟩ := cE
  obtain ⟨fF, dF, GF, gF, kF, bF⟩ := cF
  refine okD F scLaw (fun vs H Q E h => ?_) (fun cdv A outer s H vs Q E hr h => ?_)
  · obtain ⟨a, ns, rfl, _⟩ := h
    rfl
  obtain ⟨a, ns, rfl, hS, h63, k⟩ := h
  have h1 := hr.mono (j := 1) (by omega)
  have h2 := hr.mono (j := 2) (by omega)
  have h3 := hr.mono (j := 3) (by omega)
  have h4 := hr.mono (j := 4) (by omega)
  have h15 := hr.mono (j := 15) (by omega)
  -- one cell's turn, behind the draw of the size
  have tail : ∃ t, PSs (cxOf CX0 P w K mg base ["_law_script", "_law_k", "_law_pot_here", "_law_n", "_law_shape_here", "_law_other"] "law" (defScope sLaw) f cdv A outer s H E).nox ((forBody ((defBody sLaw).getD 0 (.Pass ⟨0, 0, 0, 0⟩))).drop 3) t ∧
      ∀ (D : Ends) (v1 v4 v5 : Option V) (p : Addr) (n : Nat) (G : Hp), n ≤ 12 → H p = none → Same H G → PotAt G p →
        (∀ (v1 v2 v3 v4 v5 : Option V) (G' : Hp), Same H G' → D.nx [some (.ref a), v1, v2, v3, v4, v5] G') →
        t D [some (.ref a), v1, some (.ref p), some (nV n), v4, v5] G := by
    refine ⟨_, pss_cons (ps_set (i := 4) scLaw.nd rfl (.inl rfl) (pe_call GL h15 rfl gL kL bL .nil pass0 (pa_cons (pv 3) (pa_cons (pe_call GB h3 rfl gB kB bB .nil pass0 (pa_cons (pv 2) (pa_cons (pv 3) pa_nil))) pa_nil))))
      (pss_cons (ps_if (PW.pt (pw_or (pt_cmpR op_notBl (pe_call GS hr rfl gS kS bS .nil pass0 (pa_cons (pv 4) pa_nil)) pe_bl (nomark _)) (pw_or1 (pt_cmpR op_notBl (pe_call GT h4 rfl gT kT bT .nil pass0 (pa_cons (pv 4) pa_nil)) pe_bl (nomark _))))) (pss_one (ps_ret pe_bl)) pss_nil)
      (pss_cons (ps_for PassesOwn.never rfl (pi_list (pe_call GO h2 rfl gO kO bO .nil pass0 (pa_cons (pv 2) (pa_cons (pv 4) pa_nil)))) (pg_name (i := 5) scLaw.nd rfl (.inl rfl))
        (pss_one (ps_if (PW.pt (pw_or (pt_cmpR op_notBl (pe_call GS hr rfl gS kS bS .nil pass0 (pa_cons (pv 5) pa_nil)) pe_bl (nomark _))
          (pw_or1 (pt_cmpR op_ne (pe_call GT h4 rfl gT kT bT .nil pass0 (pa_cons (pv 5) pa_nil)) (pe_cmpR op_le (pe_call GP h1 rfl gP kP bP .nil pass0 (pa_cons (pv 5) pa_nil)) (pv 3) (nomark _)) (nomark _))))) (pss_one (ps_ret pe_bl)) pss_nil)))
      (pss_one (ps_if (PW.pt (pw_or (pt_cmpR (op_neD hr.units) (pe_call GE h4 rfl gE kE bE .nil pass0 (pa_cons (pv 3) pa_nil)) (pe_tup (pa_cons (pv 3) (pa_cons pe_int (pa_cons (pe_tup pa_nil) pa_nil)))) (nomark _))
        (pw_or (pt_cmpR (op_neD hr.units) (pe_call GF h4 rfl gF kF bF .nil pass0 (pa_cons (pv 3) pa_nil)) (pe_tup (pa_cons (pv 3) (pa_cons pe_int (pa_cons (pe_tup pa_nil) pa_nil)))) (nomark _))
        (pw_or1 (pt_cmpR op_notBl (pe_call GS hr rfl gS kS bS .nil pass0 (pa_cons (pe_call GF h4 rfl gF kF bF .nil pass0 (pa_cons (pv 3) pa_nil)) pa_nil)) pe_bl (nomark _)))))) (pss_one (ps_ret pe_bl)) pss_nil)))),
      fun D v1 v4 v5 p n G hn hp sG hpot hnx => ?_⟩
    refine ⟨_, rfl, _, rfl, _, rfl, p, n, rfl, hpot, hn, fun l as bs G2 hl hB hz2 hp2 b2 => ⟨n, l, as, bs, rfl, hn, hl, hB, hz2, fun R top a3 c3 cs3 G3 hnum s3 hT3 => ?_⟩⟩
    obtain ⟨hC, hdp, hz⟩ := canon_of hnum hn
    have h1c := one_canon hC
    have sG2 : Same H G2 := fun b o hb => b2 _ _ (sG _ _ hb) (ne_of_none hb hp)
    have sG3 := sG2.trans s3
    -- the one telling is a shape and a telling
    refine ⟨_, rfl, a3, n, top, c3, cs3, R, rfl, hT3, hn, hC.wf.v, hC.lt, by omega, fun G4 s4 => ?_⟩
    rw [decide_eq_true hdp, decide_eq_true h1c]
    refine ⟨_, _, rfl, rfl, _, rfl, iteF ?_⟩
    have hT4 := hT3.tups (Same.tups s4)
    refine ⟨_, rfl, a3, n, top, c3, cs3, R, rfl, hT4, hn, hC.wf.v, hC.lt, by omega, fun G5 s5 => ?_⟩
    rw [decide_eq_true hdp]
    refine ⟨_, _, rfl, rfl, _, rfl, iteF ?_⟩
    have hT5 := hT4.tups (Same.tups s5)
    have hp5 := hp2.same (s3.trans (s4.trans s5))
    have sG5 := sG3.trans (s4.trans s5)
    -- the others
    refine ⟨_, rfl, _, rfl, p, a3, n, top, c3, cs3, R, rfl, hp5, hT5, hC, Nat.le_trans hdp hn, hz, fun l6 os G6 hO hos => ?_⟩
    have sG6 : Same H G6 := fun b o hb => hO.but _ _ (sG5 _ _ hb) (ne_of_none hb hp)
    refine ⟨l6, rfl, ⟨_, SqL.of hO.ls⟩, for_list (K := K) (a := l6) (xs := os.map V.ref) (fun i σ G7 => ∃ v : Option V, σ = [some (.ref a), v1, some (.ref p), some (nV n), some (.ref a3), v] ∧ Same G6 G7)
      ⟨v5, rfl, Same.refl _⟩ (fun i σ G7 _ ⟨_, _, h⟩ => SqL.of (h _ _ hO.ls)) ?_ ?_⟩
    · rintro i y σ G7 hy ⟨v, rfl, s7⟩
      rw [List.getElem?_map] at hy
      obtain ⟨o, ho, rfl⟩ := Option.map_eq_some_iff.mp hy
      obtain ⟨top8, R8, c8, cs8, hT8, hOdd⟩ := (hO.odd o (List.mem_of_getElem? ho)).tups (Same.tups s7)
      refine ⟨_, rfl, o, n, top8, c8, cs8, R8, rfl, hT8, hn, hOdd.v, hOdd.lt, hOdd.few, fun G8 s8 => ?_⟩
      have ef : (decide (dep R8 top8 ≤ n) && decide (oneOf top8 R8 = (top8, R8))) = false := by
        by_cases c : dep R8 top8 ≤ n
        · rw [decide_eq_false (hOdd.no (Nat.le_trans c hn)), Bool.and_false]
        · rw [decide_eq_false c, Bool.false_and]
      rw [ef]
      refine ⟨_, _, rfl, rfl, _, rfl, iteF ?_⟩
      have hT9 := hT8.tups (Same.tups s8)
      refine ⟨_, rfl, o, n, top8, c8, cs8, R8, rfl, hT9, hn, hOdd.v, hOdd.lt, hOdd.few, fun G9 s9 => ?_⟩
      refine ⟨_, rfl, o, n, top8, c8, cs8, R8, rfl, hT9.tups (Same.tups s9), hOdd.v, hOdd.lt, hOdd.few, fun G10 s10 => ⟨_, rfl, _, _, rfl, rfl, rfl, false, ?_, iteF ⟨_, rfl, s7.trans (s8.trans (s9.trans s10))⟩⟩⟩
      have ed : decide ((dep R8 top8 : Int) ≤ (n : Int)) = decide (dep R8 top8 ≤ n) := decide_eq_decide.mpr (by omega)
      show V.bl (!decide (V.bl (decide (dep R8 top8 ≤ n)) = V.bl (decide ((dep R8 top8 : Int) ≤ (n : Int))))) = V.bl false
      rw [ed, decide_eq_true rfl]
      rfl
    · rintro σ G7 ⟨v, rfl, s7⟩
      -- empty and full floors
      have sG7 := sG6.trans s7
      refine ⟨_, rfl, n, rfl, hn, fun a8 c8 G8 s8 hT8 => ⟨_, rfl, (by decide : 0 ≤ sizeLine), fun c9 hc9 => ⟨(by decide : 3 ≤ sizeLine), fun a9 ha9 => ?_⟩⟩⟩
      obtain ⟨s9, t9⟩ := tel_new (n := n) (top := 0) hc9 ha9
      refine ⟨_, _, dp_tel (hT8.tups (Same.tups s9)), dp_tel t9, tD_shaped _ _ _, tD_shaped _ _ _, _, rfl, ?_⟩
      rw [eqv_self]
      refine iteF ⟨_, rfl, n, rfl, hn, fun a10 c10 G10 s10 hT10 => ⟨_, rfl, (by decide : 0 ≤ sizeLine), fun c11 hc11 => ⟨(by decide : 3 ≤ sizeLine), fun a11 ha11 => ?_⟩⟩⟩
      obtain ⟨s11, t11⟩ := tel_new (n := n) (top := 1) hc11 ha11
      refine ⟨_, _, dp_tel (hT10.tups (Same.tups s11)), dp_tel t11, tD_shaped _ _ _, tD_shaped _ _ _, _, rfl, ?_⟩
      rw [eqv_self]
      refine iteF ⟨_, rfl, n, rfl, hn, fun a12 c12 G12 s12 hT12 => ⟨a12, n, 1, c12, [], [], rfl, hT12, hn, VR.nil, (by decide : 1 < 0 + 2), Nat.zero_le _, fun G13 s13 => ?_⟩⟩
      rw [decide_eq_true (show dep [] 1 ≤ n by rw [dep_small [] (Nat.le_refl 1)]; exact Nat.zero_le _), decide_eq_true one_full]
      refine ⟨_, _, rfl, rfl, _, rfl, iteF ?_⟩
      exact hnx _ _ _ _ _ _ (sG7.trans (s8.trans (s9.trans (s10.trans (s11.trans (s12.trans s13))))))
  obtain ⟨t3, p3, k3⟩ := tail
  refine ⟨_, pss_cons (ps_for PassesOwn.never rfl (pi_range1 (by rfl) mR (pa_cons (pe_callB (call_max2 rfl) (by rfl) mMx (by decide +kernel) (pa_cons pe_int (pa_cons (pe_callB (call_min2 rfl) (by rfl) mMn (by decide +kernel) (pa_cons pe_int (pa_cons (pe_callB call_len_seq (by rfl) mL PySem.boot_len (pa_cons (pv 0) pa_nil)) pa_nil))) pa_nil))) pa_nil)) (pg_name (i := 1) scLaw.nd rfl (.inl rfl))
      (pss_cons (ps_set (i := 2) scLaw.nd rfl (.inl rfl) (pe_call GPo h1 rfl gPo kPo bPo .nil pass0 (pa_cons (pv 0) (pa_cons (pv 1) pa_nil))))
      (pss_cons (ps_set (i := 3) scLaw.nd rfl (.inl rfl) (pe_call GD h1 rfl gD kD bD .nil pass0 (pa_cons (pv 2) (pa_cons pe_int pa_nil))))
      (pss_cons (ps_if (pt_cmpR op_eq (pe_call GD h1 rfl gD kD bD .nil pass0 (pa_cons (pv 2) (pa_cons pe_int pa_nil))) pe_int (nomark _)) (pss_one (ps_set (i := 3) scLaw.nd rfl (.inl rfl) (pe_op op_mod (pv 3) pe_int))) pss_nil) p3))))
    (pss_one (ps_ret pe_bl)), ?_⟩
  have hm := turns_ok ns.length
  refine ⟨_, rfl, a, _, rfl, .inl hS, _, _, rfl, _, _, rfl, _, rfl, ?_, ?_, for_range (lo := 0) (fun i σ G => ∃ v1 v2 v3 v4 v5 : Option V, σ = [some (.ref a), v1, v2, v3, v4, v5] ∧ Same H G) ⟨_, _, _, _, _, rfl, Same.refl _⟩ ?_ ?_⟩
  · rw [List.length_map]
    omega
  · rw [List.length_map]
    omega
  · rw [List.length_map]
    rintro i σ G hi ⟨v1, v2, v3, v4, v5, rfl, sG⟩
    refine ⟨_, rfl, _, rfl, a, ns, i, ?_, sG.seq hS, h63, by omega, fun p G1 hp s1 p1 => ?_⟩
    · rw [Int.zero_add]
      rfl
    refine ⟨_, rfl, p, 13, rfl, p1, by decide, by decide, fun d2 G2 d20 d21 p2 b2 => ?_⟩
    obtain ⟨n, rfl⟩ : ∃ n : Nat, d2 = (n : Int) := ⟨d2.toNat, by omega⟩
    refine ⟨_, rfl, p, 2, rfl, p2, by decide, by decide, fun d3 G3 _ _ p3 b3 => ⟨rfl, _, rfl, ?_⟩⟩
    have sH1 := sG.trans s1
    have hpH : H p = none := sG.free hp
    have sH3 : Same H G3 := fun b o hb => (b2.trans b3) _ _ (sH1 _ _ hb) (ne_of_none hb hpH)
    refine ite2 (fun _ => ?_) (fun _ => ?_)
    · refine ⟨_, rfl, _, _, rfl, rfl, (by show (0 : Int) < 4; decide), ?_⟩
      have e4 : (n : Int) % 4 = ((n % 4 : Nat) : Int) := by omega
      dsimp only
      rw [e4]
      exact k3 _ _ _ _ p (n % 4) G3 (by omega) hpH sH3 p3 fun v1 v2 v3 v4 v5 G' s' => ⟨v1, v2, v3, v4, v5, rfl, s'⟩
    · exact k3 _ _ _ _ p n G3 (by omega) hpH sH3 p3 fun v1 v2 v3 v4 v5 G' s' => ⟨v1, v2, v3, v4, v5, rfl, s'⟩
  · rintro σ G ⟨v1, v2, v3, v4, v5, rfl, sG⟩
    exact k G
end
def dIsWhole : He.DefD := ⟨("is_whole", none), "is_whole", "is_whole", defArgs sIsWhole, defBody sIsWhole, defScope sIsWhole, [], []⟩
def dIsSize : He.DefD := ⟨("is_size", none), "is_size", "is_size", defArgs sIsSize, defBody sIsSize, defScope sIsSize, [], []⟩
def dWantSize : He.DefD := ⟨("want_size", none), "want_size", "want_size", defArgs sWantSize, defBody sWantSize, defScope sWantSize, [], []⟩
def dOneOf : He.DefD := ⟨("one_of", none), "one_of", "one_of", defArgs sOneOf, defBody sOneOf, defScope sOneOf, [], []⟩
def dIsNumber : He.DefD := ⟨("is_number", none), "is_number", "is_number", defArgs sIsNumber, defBody sIsNumber, defScope sIsNumber, [], []⟩
def dIsRow : He.DefD := ⟨("is_row", none), "is_row", "is_row", defArgs sIsRow, defBody sIsRow, defScope sIsRow, [], []⟩
def dDepthsOf : He.DefD := ⟨("depths_of", none), "depths_of", "depths_of", defArgs sDepthsOf, defBody sDepthsOf, defScope sDepthsOf, [], []⟩
def dIsTelling : He.DefD := ⟨("is_telling", none), "is_telling", "is_telling", defArgs sIsTelling, defBody sIsTelling, defScope sIsTelling, [], []⟩
def dIsShape : He.DefD := ⟨("is_shape", none), "is_shape", "is_shape", defArgs sIsShape, defBody sIsShape, defScope sIsShape, [], []⟩
def dEmpty : He.DefD := ⟨("empty", none), "empty", "empty", defArgs sEmpty, defBody sEmpty, defScope sEmpty, [], []⟩
def dFull : He.DefD := ⟨("full", none), "full", "full", defArgs sFull, defBody sFull, defScope sFull, [], []⟩
def dLPot : He.DefD := ⟨("_law_pot", none), "_law_pot", "_law_pot", defArgs sLPot, defBody sLPot, defScope sLPot, [], []⟩
def dLDigit : He.DefD := ⟨("_law_digit", none), "_law_digit", "_law_digit", defArgs sLDigit, defBody sLDigit, defScope sLDigit, [], []⟩
def dLCells : He.DefD := ⟨("_law_cells", none), "_law_cells", "_law_cells", defArgs sLCells, defBody sLCells, defScope sLCells, [], []⟩
def dLBox : He.DefD := ⟨("_law_box", none), "_law_box", "_law_box", defArgs sLBox, defBody sLBox, defScope sLBox, [], []⟩
def dLBoxes : He.DefD := ⟨("_law_boxes", none), "_law_boxes", "_law_boxes", defArgs sLBoxes, defBody sLBoxes, defScope sLBoxes, [], []⟩
def dLMeets : He.DefD := ⟨("_law_meets", none), "_law_meets", "_law_meets", defArgs sLMeets, defBody sLMeets, defScope sLMeets, [], []⟩
def dLHas : He.DefD := ⟨("_law_has", none), "_law_has", "_law_has", defArgs sLHas, defBody sLHas, defScope sLHas, [], []⟩
def dLNumber : He.DefD := ⟨("_law_number", none), "_law_number", "_law_number", defArgs sLNumber, defBody sLNumber, defScope sLNumber, [], []⟩
def dLShape : He.DefD := ⟨("_law_shape", none), "_law_shape", "_law_shape", defArgs sLShape, defBody sLShape, defScope sLShape, [], []⟩
def dLPutIn : He.DefD := ⟨("_law_put_in", none), "_law_put_in", "_law_put_in", defArgs sLPutIn, defBody sLPutIn, defScope sLPutIn, [], []⟩
def dLUsed : He.DefD := ⟨("_law_used", none), "_law_used", "_law_used", defArgs sLUsed, defBody sLUsed, defScope sLUsed, [], []⟩
def dLTurned : He.DefD := ⟨("_law_turned", none), "_law_turned", "_law_turned", defArgs sLTurned, defBody sLTurned, defScope sLTurned, [], []⟩
def dLOthers : He.DefD := ⟨("_law_others", none), "_law_others", "_law_others", defArgs sLOthers, defBody sLOthers, defScope sLOthers, [], []⟩
def dLDeep : He.DefD := ⟨("_law_deep", none), "_law_deep", "_law_deep", defArgs sLDeep, defBody sLDeep, defScope sLDeep, [], []⟩
def dLaw : He.DefD := ⟨("law", none), "law", "law", defArgs sLaw, defBody sLaw, defScope sLaw, [], []⟩
def dRInit : He.DefD := ⟨("Rows", some "__init__"), "__init__", "Rows.__init__", defArgs sRInit, defBody sRInit, defScope sRInit, [], []⟩
def dRNumber : He.DefD := ⟨("Rows", some "number"), "number", "Rows.number", defArgs sRNumber, defBody sRNumber, defScope sRNumber, [], []⟩
def dRQuarters : He.DefD := ⟨("Rows", some "quarters"), "quarters", "Rows.quarters", defArgs sRQuarters, defBody sRQuarters, defScope sRQuarters, [], []⟩
def dRTake : He.DefD := ⟨("Rows", some "take"), "take", "Rows.take", defArgs sRTake, defBody sRTake, defScope sRTake, [], []⟩
def dROrder : He.DefD := ⟨("Rows", some "order"), "order", "Rows.order", defArgs sROrder, defBody sROrder, defScope sROrder, [], []⟩
def dRShape : He.DefD := ⟨("Rows", some "shape"), "shape", "Rows.shape", defArgs sRShape, defBody sRShape, defScope sRShape, [], []⟩
def fn : List He.DefD := [dIsWhole, dIsSize, dWantSize, dOneOf, dIsNumber, dIsRow, dDepthsOf, dIsTelling, dIsShape, dEmpty, dFull, dLPot, dLDigit, dLCells, dLBox, dLBoxes, dLMeets, dLHas, dLNumber, dLShape, dLPutIn, dLUsed, dLTurned, dLOthers, dLDeep, dLaw, dRInit, dRNumber, dRQuarters, dRTake, dROrder, dRShape]
def fa : List He.Fa := [.glo "is_whole", .glo "is_size", .glo "want_size", .glo "one_of", .glo "is_number", .glo "is_row", .glo "depths_of", .glo "is_telling", .glo "is_shape", .glo "empty", .glo "full", .glo "_law_pot", .glo "_law_digit", .glo "_law_cells", .glo "_law_box", .glo "_law_boxes", .glo "_law_meets", .glo "_law_has", .glo "_law_number", .glo "_law_shape", .glo "_law_put_in", .glo "_law_used", .glo "_law_turned", .glo "_law_others", .glo "_law_deep", .glo "law", .glo "Rows", .free "len", .free "isinstance", .free "int", .free "bool", .free "tuple", .free "all", .free "enumerate", .free "max", .free "min", .free "abs", .free "range", .free "any", .free "list", .int "MOST_SIZE" 12, .cls "Rows", .mkr "Rows", .noat "Rows" "rows", .noat "Rows" "numbers", .meth "Rows" "number", .meth "Rows" "quarters", .meth "Rows" "take", .meth "Rows" "order", .meth "Rows" "shape"]
def loose : List PySem.Str := ["FloorError", "NoFloor", "MOST_SIZE", "Rows", "is_whole", "is_size", "want_size", "one_of", "is_number", "is_row", "depths_of", "is_telling", "is_shape", "empty", "full", "_law_pot", "_law_digit", "_law_cells", "_law_box", "_law_boxes", "_law_meets", "_law_has", "_law_number", "_law_shape", "_law_put_in", "_law_used", "_law_turned", "_law_others", "_law_deep"]
abbrev R : PySem.W.OpenRow := PySem.W.OpenLaw.row PySem.Challenge.rw_quarterfold_k13_whole_one_shape
abbrev hk : PySem.W.Hook := He.hookD 6 fa fn
def ob (s : PySem.W.SharedT) : He.AlD := He.obsDG 6 fa fn (HandSHeadRun.getT s)
theorem ob_eq (s : PySem.W.SharedT) : ob s = hk.obs s.abs := He.obsDG_eq (HandSHeadRun.getT_eq s)
set_option maxHeartbeats 0 in
theorem run (w : World) : HandSHeadRun.RunEq R (PySem.W.view R.prog [34]) hk ob 4000 loose w := by
  intro os
  kernel_rfl
theorem facts {P : Program} {w : World} {K : PySem.W.Frag} {h : Heap} {mg : Str → Option Value} {f : Addr} (X : K.In h) (G : h.Ns mainGlobals mg) (hfa : mg ("law" : Str) = some (.ref f)) (c : He.SaysD fa fn K) :
    ∃ fd : FuncData, (∀ (s : Shared) (v : Value), BindsTo s fd ⟨[v], []⟩ [("_law_script", v)]) ∧ ∀ base : Heap, K.In base → base.Ns mainGlobals mg → FnOk P w K mg base CX0 18 f fd ["_law_script"] (spLaw K) := by
  obtain ⟨d_IsWhole, F_IsWhole⟩ := c.def_ 0 (d := dIsWhole) rfl
  obtain ⟨d_IsSize, F_IsSize⟩ := c.def_ 1 (d := dIsSize) rfl
  obtain ⟨d_WantSize, F_WantSize⟩ := c.def_ 2 (d := dWantSize) rfl
  obtain ⟨d_OneOf, F_OneOf⟩ := c.def_ 3 (d := dOneOf) rfl
  obtain ⟨d_IsNumber, F_IsNumber⟩ := c.def_ 4 (d := dIsNumber) rfl
  obtain ⟨d_IsRow, F_IsRow⟩ := c.def_ 5 (d := dIsRow) rfl
  obtain ⟨d_DepthsOf, F_DepthsOf⟩ := c.def_ 6 (d := dDepthsOf) rfl
  obtain ⟨d_IsTelling, F_IsTelling⟩ := c.def_ 7 (d := dIsTelling) rfl
  obtain ⟨d_IsShape, F_IsShape⟩ := c.def_ 8 (d := dIsShape) rfl
  obtain ⟨d_Empty, F_Empty⟩ := c.def_ 9 (d := dEmpty) rfl
  obtain ⟨d_Full, F_Full⟩ := c.def_ 10 (d := dFull) rfl
  obtain ⟨d_LPot, F_LPot⟩ := c.def_ 11 (d := dLPot) rfl
  obtain ⟨d_LDigit, F_LDigit⟩ := c.def_ 12 (d := dLDigit) rfl
  obtain ⟨d_LCells, F_LCells⟩ := c.def_ 13 (d := dLCells) rfl
  obtain ⟨d_LBox, F_LBox⟩ := c.def_ 14 (d := dLBox) rfl
  obtain ⟨d_LBoxes, F_LBoxes⟩ := c.def_ 15 (d := dLBoxes) rfl
  obtain ⟨d_LMeets, F_LMeets⟩ := c.def_ 16 (d := dLMeets) rfl
  obtain ⟨d_LHas, F_LHas⟩ := c.def_ 17 (d := dLHas) rfl
  obtain ⟨d_LNumber, F_LNumber⟩ := c.def_ 18 (d := dLNumber) rfl
  obtain ⟨d_LShape, F_LShape⟩ := c.def_ 19 (d := dLShape) rfl
  obtain ⟨d_LPutIn, F_LPutIn⟩ := c.def_ 20 (d := dLPutIn) rfl
  obtain ⟨d_LUsed, F_LUsed⟩ := c.def_ 21 (d := dLUsed) rfl
  obtain ⟨d_LTurned, F_LTurned⟩ := c.def_ 22 (d := dLTurned) rfl
  obtain ⟨d_LOthers, F_LOthers⟩ := c.def_ 23 (d := dLOthers) rfl
  obtain ⟨d_LDeep, F_LDeep⟩ := c.def_ 24 (d := dLDeep) rfl
  obtain ⟨d_Law, F_Law⟩ := c.def_ 25 (d := dLaw) rfl
  obtain ⟨d_RInit, F_RInit⟩ := c.def_ 26 (d := dRInit) rfl
  obtain ⟨d_RNumber, F_RNumber⟩ := c.def_ 27 (d := dRNumber) rfl
  obtain ⟨d_RQuarters, F_RQuarters⟩ := c.def_ 28 (d := dRQuarters) rfl
  obtain ⟨d_RTake, F_RTake⟩ := c.def_ 29 (d := dRTake) rfl
  obtain ⟨d_ROrder, F_ROrder⟩ := c.def_ 30 (d := dROrder) rfl
  obtain ⟨d_RShape, F_RShape⟩ := c.def_ 31 (d := dRShape) rfl
  have g_IsWhole := He.glo_ok X G (c.fact 0 (f := .glo "is_whole") rfl)
  have g_IsSize := He.glo_ok X G (c.fact 1 (f := .glo "is_size") rfl)
  have g_WantSize := He.glo_ok X G (c.fact 2 (f := .glo "want_size") rfl)
  have g_OneOf := He.glo_ok X G (c.fact 3 (f := .glo "one_of") rfl)
  have g_IsNumber := He.glo_ok X G (c.fact 4 (f := .glo "is_number") rfl)
  have g_IsRow := He.glo_ok X G (c.fact 5 (f := .glo "is_row") rfl)
  have g_DepthsOf := He.glo_ok X G (c.fact 6 (f := .glo "depths_of") rfl)
  have g_IsTelling := He.glo_ok X G (c.fact 7 (f := .glo "is_telling") rfl)
  have g_IsShape := He.glo_ok X G (c.fact 8 (f := .glo "is_shape") rfl)
  have g_Empty := He.glo_ok X G (c.fact 9 (f := .glo "empty") rfl)
  have g_Full := He.glo_ok X G (c.fact 10 (f := .glo "full") rfl)
  have g_LPot := He.glo_ok X G (c.fact 11 (f := .glo "_law_pot") rfl)
  have g_LDigit := He.glo_ok X G (c.fact 12 (f := .glo "_law_digit") rfl)
  have g_LCells := He.glo_ok X G (c.fact 13 (f := .glo "_law_cells") rfl)
  have g_LBox := He.glo_ok X G (c.fact 14 (f := .glo "_law_box") rfl)
  have g_LBoxes := He.glo_ok X G (c.fact 15 (f := .glo "_law_boxes") rfl)
  have g_LMeets := He.glo_ok X G (c.fact 16 (f := .glo "_law_meets") rfl)
  have g_LHas := He.glo_ok X G (c.fact 17 (f := .glo "_law_has") rfl)
  have g_LNumber := He.glo_ok X G (c.fact 18 (f := .glo "_law_number") rfl)
  have g_LShape := He.glo_ok X G (c.fact 19 (f := .glo "_law_shape") rfl)
  have g_LPutIn := He.glo_ok X G (c.fact 20 (f := .glo "_law_put_in") rfl)
  have g_LUsed := He.glo_ok X G (c.fact 21 (f := .glo "_law_used") rfl)
  have g_LTurned := He.glo_ok X G (c.fact 22 (f := .glo "_law_turned") rfl)
  have g_LOthers := He.glo_ok X G (c.fact 23 (f := .glo "_law_others") rfl)
  have g_LDeep := He.glo_ok X G (c.fact 24 (f := .glo "_law_deep") rfl)
  have g_Law := He.glo_ok X G (c.fact 25 (f := .glo "law") rfl)
  have m_len := He.free_ok X G (c.fact 27 (f := .free "len") rfl)
  have m_isinstance := He.free_ok X G (c.fact 28 (f := .free "isinstance") rfl)
  have m_int := He.free_ok X G (c.fact 29 (f := .free "int") rfl)
  have m_bool := He.free_ok X G (c.fact 30 (f := .free "bool") rfl)
  have m_tuple := He.free_ok X G (c.fact 31 (f := .free "tuple") rfl)
  have m_all := He.free_ok X G (c.fact 32 (f := .free "all") rfl)
  have m_enumerate := He.free_ok X G (c.fact 33 (f := .free "enumerate") rfl)
  have m_max := He.free_ok X G (c.fact 34 (f := .free "max") rfl)
  have m_min := He.free_ok X G (c.fact 35 (f := .free "min") rfl)
  have m_abs := He.free_ok X G (c.fact 36 (f := .free "abs") rfl)
  have m_range := He.free_ok X G (c.fact 37 (f := .free "range") rfl)
  have m_any := He.free_ok X G (c.fact 38 (f := .free "any") rfl)
  have m_list := He.free_ok X G (c.fact 39 (f := .free "list") rfl)
  have hM := He.int_ok X G (c.fact 40 (f := .int "MOST_SIZE" 12) rfl)
  have T : Kr K mg (He.ga K "Rows") := ⟨He.cls_ok (c.fact 41 (f := .cls "Rows") rfl), He.noat_ok (c.fact 43 (f := .noat "Rows" "rows") rfl), He.noat_ok (c.fact 44 (f := .noat "Rows" "numbers") rfl), He.glo_ok X G (c.fact 26 (f := .glo "Rows") rfl)⟩
  have MI := He.mkr_ok (c.fact 42 (f := .mkr "Rows") rfl)
  have M_RNumber := He.meth_ok (c.fact 45 (f := .meth "Rows" "number") rfl)
  have M_RQuarters := He.meth_ok (c.fact 46 (f := .meth "Rows" "quarters") rfl)
  have M_RTake := He.meth_ok (c.fact 47 (f := .meth "Rows" "take") rfl)
  have M_ROrder := He.meth_ok (c.fact 48 (f := .meth "Rows" "order") rfl)
  have M_RShape := He.meth_ok (c.fact 49 (f := .meth "Rows" "shape") rfl)
  have b_IsWhole := F_IsWhole.bindsN (ps := ["thing"]) fun _ _ _ _ _ _ us hl => match us, hl with | [_], _ => rfl
  have b_IsSize := F_IsSize.bindsN (ps := ["thing"]) fun _ _ _ _ _ _ us hl => match us, hl with | [_], _ => rfl
  have b_WantSize := F_WantSize.bindsN (ps := ["n"]) fun _ _ _ _ _ _ us hl => match us, hl with | [_], _ => rfl
  have b_OneOf := F_OneOf.bindsN (ps := ["telling"]) fun _ _ _ _ _ _ us hl => match us, hl with | [_], _ => rfl
  have b_IsNumber := F_IsNumber.bindsN (ps := ["thing", "most"]) fun _ _ _ _ _ _ us hl => match us, hl with | [_, _], _ => rfl
  have b_IsRow := F_IsRow.bindsN (ps := ["thing", "place"]) fun _ _ _ _ _ _ us hl => match us, hl with | [_, _], _ => rfl
  have b_DepthsOf := F_DepthsOf.bindsN (ps := ["rows"]) fun _ _ _ _ _ _ us hl => match us, hl with | [_], _ => rfl
  have b_IsTelling := F_IsTelling.bindsN (ps := ["thing"]) fun _ _ _ _ _ _ us hl => match us, hl with | [_], _ => rfl
  have b_IsShape := F_IsShape.bindsN (ps := ["thing"]) fun _ _ _ _ _ _ us hl => match us, hl with | [_], _ => rfl
  have b_Empty := F_Empty.bindsN (ps := ["n"]) fun _ _ _ _ _ _ us hl => match us, hl with | [_], _ => rfl
  have b_Full := F_Full.bindsN (ps := ["n"]) fun _ _ _ _ _ _ us hl => match us, hl with | [_], _ => rfl
  have b_LPot := F_LPot.bindsN (ps := ["_law_script", "_law_k"]) fun _ _ _ _ _ _ us hl => match us, hl with | [_, _], _ => rfl
  have b_LDigit := F_LDigit.bindsN (ps := ["_law_pot_here", "_law_many"]) fun _ _ _ _ _ _ us hl => match us, hl with | [_, _], _ => rfl
  have b_LCells := F_LCells.bindsN (ps := ["_law_pot_here", "_law_n"]) fun _ _ _ _ _ _ us hl => match us, hl with | [_, _], _ => rfl
  have b_LBox := F_LBox.bindsN (ps := ["_law_pot_here", "_law_n", "_law_most"]) fun _ _ _ _ _ _ us hl => match us, hl with | [_, _, _], _ => rfl
  have b_LBoxes := F_LBoxes.bindsN (ps := ["_law_pot_here", "_law_n"]) fun _ _ _ _ _ _ us hl => match us, hl with | [_, _], _ => rfl
  have b_LMeets := F_LMeets.bindsN (ps := ["_law_box_here", "_law_row", "_law_column", "_law_side"]) fun _ _ _ _ _ _ us hl => match us, hl with | [_, _, _, _], _ => rfl
  have b_LHas := F_LHas.bindsN (ps := ["_law_box_here", "_law_row", "_law_column", "_law_side"]) fun _ _ _ _ _ _ us hl => match us, hl with | [_, _, _, _], _ => rfl
  have b_LNumber := F_LNumber.bindsN (ps := ["_law_rows", "_law_boxes_here", "_law_row", "_law_column", "_law_side"]) fun _ _ _ _ _ _ us hl => match us, hl with | [_, _, _, _, _], _ => rfl
  have b_LShape := F_LShape.bindsN (ps := ["_law_n", "_law_boxes_here"]) fun _ _ _ _ _ _ us hl => match us, hl with | [_, _], _ => rfl
  have b_LPutIn := F_LPutIn.bindsN (ps := ["_law_telling", "_law_at", "_law_row"]) fun _ _ _ _ _ _ us hl => match us, hl with | [_, _, _], _ => rfl
  have b_LUsed := F_LUsed.bindsN (ps := ["_law_telling", "_law_old", "_law_new", "_law_first"]) fun _ _ _ _ _ _ us hl => match us, hl with | [_, _, _, _], _ => rfl
  have b_LTurned := F_LTurned.bindsN (ps := ["_law_telling", "_law_at"]) fun _ _ _ _ _ _ us hl => match us, hl with | [_, _], _ => rfl
  have b_LOthers := F_LOthers.bindsN (ps := ["_law_pot_here", "_law_shape_here"]) fun _ _ _ _ _ _ us hl => match us, hl with | [_, _], _ => rfl
  have b_LDeep := F_LDeep.bindsN (ps := ["_law_telling"]) fun _ _ _ _ _ _ us hl => match us, hl with | [_], _ => rfl
  have b_RInit := F_RInit.bindsN (ps := ["self"]) fun _ _ _ _ _ _ us hl => match us, hl with | [_], _ => rfl
  have b_RNumber := F_RNumber.bindsN (ps := ["self", "quarters"]) fun _ _ _ _ _ _ us hl => match us, hl with | [_, _], _ => rfl
  have b_RQuarters := F_RQuarters.bindsN (ps := ["self", "number"]) fun _ _ _ _ _ _ us hl => match us, hl with | [_, _], _ => rfl
  have b_RTake := F_RTake.bindsN (ps := ["self", "telling"]) fun _ _ _ _ _ _ us hl => match us, hl with | [_, _], _ => rfl
  have b_ROrder := F_ROrder.bindsN (ps := ["self", "number", "found"]) fun _ _ _ _ _ _ us hl => match us, hl with | [_, _, _], _ => rfl
  have b_RShape := F_RShape.bindsN (ps := ["self", "n", "top"]) fun _ _ _ _ _ _ us hl => match us, hl with | [_, _, _], _ => rfl
  have e := hfa.symm.trans g_Law
  cases e
  have bLaw := FunD.bindsA (ps := ["_law_script"]) F_Law fun _ _ _ _ _ _ us hl => match us, hl with | [_], _ => rfl
  refine ⟨d_Law, fun s v => bLaw s [v] rfl, fun base _ _ => ?_⟩
  have c_IsWhole : Cal P w K mg base 1 "is_whole" ["thing"] spWhole := ⟨_, _, ok_whole F_IsWhole m_isinstance m_int m_bool, g_IsWhole, F_IsWhole.kp, b_IsWhole⟩
  have c_IsSize : Cal P w K mg base 2 "is_size" ["thing"] spSize := ⟨_, _, ok_size F_IsSize c_IsWhole hM, g_IsSize, F_IsSize.kp, b_IsSize⟩
  have c_WantSize : Cal P w K mg base 3 "want_size" ["n"] spWant := ⟨_, _, ok_want F_WantSize c_IsSize, g_WantSize, F_WantSize.kp, b_WantSize⟩
  have c_RInit : ICal P w K mg base (He.ga K "Rows") := ⟨_, _, MI, ok_init F_RInit T, b_RInit⟩
  have c_RNumber : MCal P w K mg base 1 (He.ga K "Rows") "number" ["self", "quarters"] (spNumber (He.ga K "Rows")) := ⟨_, _, ok_number F_RNumber T m_len, M_RNumber, b_RNumber⟩
  have c_RQuarters : MCal P w K mg base 1 (He.ga K "Rows") "quarters" ["self", "number"] (spQuarters (He.ga K "Rows")) := ⟨_, _, ok_quarters F_RQuarters T, M_RQuarters, b_RQuarters⟩
  have c_RTake : MCal P w K mg base 2 (He.ga K "Rows") "take" ["self", "telling"] (spTake (He.ga K "Rows")) := ⟨_, _, ok_take F_RTake T m_tuple c_RNumber, M_RTake, b_RTake⟩
  have c_ROrder : MCal P w K mg base 14 (He.ga K "Rows") "order" ["self", "number", "found"] (spOrder (He.ga K "Rows") 12) := ⟨_, _, ok_order F_ROrder T m_len c_RQuarters M_ROrder b_ROrder 12, M_ROrder, b_ROrder⟩
  have c_RShape : MCal P w K mg base 15 (He.ga K "Rows") "shape" ["self", "n", "top"] (spShape (He.ga K "Rows")) := ⟨_, _, ok_shape F_RShape T m_tuple c_RQuarters c_ROrder, M_RShape, b_RShape⟩
  have c_OneOf : Cal P w K mg base 16 "one_of" ["telling"] spOne := ⟨_, _, ok_one F_OneOf T c_RInit c_RTake c_RShape, g_OneOf, F_OneOf.kp, b_OneOf⟩
  have c_IsNumber : Cal P w K mg base 2 "is_number" ["thing", "most"] spNumI := ⟨_, _, ok_isnumber F_IsNumber c_IsWhole, g_IsNumber, F_IsNumber.kp, b_IsNumber⟩
  have c_IsRow : Cal P w K mg base 3 "is_row" ["thing", "place"] spIsRow := ⟨_, _, ok_isrow F_IsRow m_isinstance m_tuple m_len m_all c_IsNumber, g_IsRow, F_IsRow.kp, b_IsRow⟩
  have c_DepthsOf : Cal P w K mg base 1 "depths_of" ["rows"] spDepths := ⟨_, _, ok_depths F_DepthsOf m_max, g_DepthsOf, F_DepthsOf.kp, b_DepthsOf⟩
  have c_IsTelling : Cal P w K mg base 4 "is_telling" ["thing"] spIsTel := ⟨_, _, ok_istel F_IsTelling m_isinstance m_tuple m_len m_all m_enumerate c_IsSize c_IsRow c_IsNumber c_DepthsOf, g_IsTelling, F_IsTelling.kp, b_IsTelling⟩
  have c_IsShape : Cal P w K mg base 17 "is_shape" ["thing"] spIsShape := ⟨_, _, ok_isshape F_IsShape c_IsTelling c_OneOf, g_IsShape, F_IsShape.kp, b_IsShape⟩
  have c_Empty : Cal P w K mg base 4 "empty" ["n"] (spPlainTel 0) := ⟨_, _, ok_empty F_Empty c_WantSize, g_Empty, F_Empty.kp, b_Empty⟩
  have c_Full : Cal P w K mg base 4 "full" ["n"] (spPlainTel 1) := ⟨_, _, ok_full F_Full c_WantSize, g_Full, F_Full.kp, b_Full⟩
  have c_LDeep : Cal P w K mg base 1 "_law_deep" ["_law_telling"] spDeep := ⟨_, _, ok_deep F_LDeep m_max, g_LDeep, F_LDeep.kp, b_LDeep⟩
  have c_LPot : Cal P w K mg base 1 "_law_pot" ["_law_script", "_law_k"] (spPot K) := ⟨_, _, ok_pot F_LPot m_len m_max m_abs, g_LPot, F_LPot.kp, b_LPot⟩
  have c_LDigit : Cal P w K mg base 1 "_law_digit" ["_law_pot_here", "_law_many"] spDigit := ⟨_, _, ok_digit F_LDigit, g_LDigit, F_LDigit.kp, b_LDigit⟩
  have c_LCells : Cal P w K mg base 2 "_law_cells" ["_law_pot_here", "_law_n"] spCells := ⟨_, _, ok_cells F_LCells m_range c_LDigit, g_LCells, F_LCells.kp, b_LCells⟩
  have c_LBox : Cal P w K mg base 2 "_law_box" ["_law_pot_here", "_law_n", "_law_most"] spBoxNew := ⟨_, _, ok_box F_LBox m_min c_LDigit, g_LBox, F_LBox.kp, b_LBox⟩
  have c_LBoxes : Cal P w K mg base 3 "_law_boxes" ["_law_pot_here", "_law_n"] spBoxes := ⟨_, _, ok_boxes F_LBoxes m_range c_LDigit c_LCells c_LBox, g_LBoxes, F_LBoxes.kp, b_LBoxes⟩
  have c_LMeets : Cal P w K mg base 1 "_law_meets" ["_law_box_here", "_law_row", "_law_column", "_law_side"] (spBox meetsB) := ⟨_, _, ok_meets F_LMeets, g_LMeets, F_LMeets.kp, b_LMeets⟩
  have c_LHas : Cal P w K mg base 1 "_law_has" ["_law_box_here", "_law_row", "_law_column", "_law_side"] (spBox hasB) := ⟨_, _, ok_has F_LHas, g_LHas, F_LHas.kp, b_LHas⟩
  have c_LNumber : ∀ k, Cal P w K mg base (k + 2) "_law_number" ["_law_rows", "_law_boxes_here", "_law_row", "_law_column", "_law_side"] (spNum k) := fun k => ⟨_, _, ok_num F_LNumber m_any m_int m_range m_tuple m_len c_LMeets c_LHas g_LNumber b_LNumber k, g_LNumber, F_LNumber.kp, b_LNumber⟩
  have c_LShape : Cal P w K mg base 15 "_law_shape" ["_law_n", "_law_boxes_here"] spLShape := ⟨_, _, ok_lshape F_LShape m_tuple c_LNumber, g_LShape, F_LShape.kp, b_LShape⟩
  have c_LPutIn : Cal P w K mg base 1 "_law_put_in" ["_law_telling", "_law_at", "_law_row"] spPutIn := ⟨_, _, ok_putin F_LPutIn m_tuple m_int, g_LPutIn, F_LPutIn.kp, b_LPutIn⟩
  have c_LUsed : Cal P w K mg base 1 "_law_used" ["_law_telling", "_law_old", "_law_new", "_law_first"] spUsed := ⟨_, _, ok_used F_LUsed m_range m_len, g_LUsed, F_LUsed.kp, b_LUsed⟩
  have c_LTurned : Cal P w K mg base 1 "_law_turned" ["_law_telling", "_law_at"] spTurned := ⟨_, _, ok_turned F_LTurned m_range m_len m_list m_tuple, g_LTurned, F_LTurned.kp, b_LTurned⟩
  have c_LOthers : Cal P w K mg base 2 "_law_others" ["_law_pot_here", "_law_shape_here"] spOthers := ⟨_, _, ok_others F_LOthers m_range m_len m_tuple c_LDigit c_LPutIn c_LUsed c_LTurned, g_LOthers, F_LOthers.kp, b_LOthers⟩
  exact ok_law F_Law m_range m_len m_max m_min c_LPot c_LDigit c_LBoxes c_LShape c_IsShape c_IsTelling c_LOthers c_LDeep c_Empty c_Full
end K13
open PySem PySem.W PySem.Calls PyProof.Rows
set_option maxHeartbeats 0 in
theorem PySem.Challenge.cw_quarterfold_k13_whole_one_shape_holds : PySem.Challenge.rw_quarterfold_k13_whole_one_shape.Holds := by
  w_on; o_law
  refine HandSHeadRun.head_any (r := OpenLaw.row PySem.Challenge.rw_quarterfold_k13_whole_one_shape) (q := view (OpenLaw.row PySem.Challenge.rw_quarterfold_k13_whole_one_shape).prog [34]) (H := K13.hk) (ob := K13.ob) (M := 4000) (loose := K13.loose) (d := HandSHeadRun.topDef (OpenLaw.row PySem.Challenge.rw_quarterfold_k13_whole_one_shape).prog 34) (kwd := []) K13.ob_eq
    (by kernel_rfl) (fun s => by kernel_rfl) K13.run (by kernel_rfl) (by kernel_rfl) (by kernel_rfl) (by rfl) (by first | assumption | decide +kernel) (by decide +kernel) ⟨rfl, rfl, rfl, rfl, rfl, by decide +kernel⟩ ?hw ?hc
  case hw => w_witness2
  case hc =>
    refine L2.walk_ofE (l := PySem.Challenge.rw_quarterfold_k13_whole_one_shape) (n := 63) (k := 18) (x := "_law_script") (CX := L2.CX0) rfl (by decide) (by kernel_rfl) ⟨rfl, by decide, by decide⟩ ?F (fun _ _ _ _ z => z)
    intro w mg fa h Y G hmg0
    obtain ⟨K, KX, c⟩ := Y
    have hmg : mg ("law" : PySem.Str) = some (.ref fa) := by
      have e : (HandSHeadRun.topDef (OpenLaw.row PySem.Challenge.rw_quarterfold_k13_whole_one_shape).prog 34).name = ("law" : PySem.Str) := by kernel_rfl
      rw [← e]
      exact hmg0
    obtain ⟨fd, hb, hF⟩ := K13.facts (P := (PySem.Challenge.rw_quarterfold_k13_whole_one_shape).prog) (w := w) KX G hmg c
    exact ⟨K, fd, K13.spLaw K, KX, hb, fun H a ns hl _ hS => ⟨a, ns, rfl, hS, hl, fun _ => rfl⟩, hF⟩
