import PyProof.Rows.All
import Wide.All
import OpenK.AllK
import Wide.FinOn
import PySem.Challenge.RW_k16_0019
open PySem PySem.W PyProof.Rows
set_option Elab.async false
set_option maxRecDepth 100000
namespace Mine
set_option maxHeartbeats 8000000
open_top hd for PySem.Challenge.rw_k16_0019
end Mine

section
namespace Mine

inductive Nest where
  | node (s r : Nat) (kids : List Nest)

mutual
def shape (t : Nat) : Nest → Bool → Nat → Option Bool
  | .node _ _ _, _, 0 => none
  | .node s r ks, root, d + 1 =>
    if r ≠ s then some false
    else if ks.isEmpty = false ∧ ks.length ≠ s + 1 then some false
    else if s ≥ 2 * t then some false
    else if root = false ∧ s + 1 < t then some false
    else shapes t ks d
def shapes (t : Nat) : List Nest → Nat → Option Bool
  | [], _ => some true
  | k :: ks, d => match shape t k false d with
    | some true => shapes t ks d
    | x => x
end

def leafN (t i : Nat) : Nest := .node (t - 1 + i % (t + 1)) (t - 1 + i % (t + 1)) []

structure Lev where
  size : Nat
  row : Nat
  nk : Nat

def nest (t : Nat) (place : Nat → Nat) : List Lev → Nest
  | [] => .node 0 0 []
  | [l] => .node l.size l.row []
  | l :: l' :: rest => .node l.size l.row (((List.range l.nk).map (leafN t)).set (place l.nk) (nest t place (l' :: rest)))

def okS (t : Nat) (r : Bool) (l : Lev) : Prop := (r = false → t ≤ l.size + 1) ∧ l.size < 2 * t ∧ l.row = l.size
def goodC (t : Nat) : Bool → List Lev → Prop
  | _, [] => True
  | r, [l] => okS t r l
  | r, l :: l' :: rest => okS t r l ∧ l.nk = l.size + 1 ∧ goodC t false (l' :: rest)

theorem shape_zero (t : Nat) (n : Nest) (r : Bool) : shape t n r 0 = none := by cases n; simp [shape]

theorem shape_leaf {t : Nat} (ht : 1 ≤ t) (i d : Nat) : shape t (leafN t i) false (d + 1) = some true := by
  have h1 : i % (t + 1) < t + 1 := Nat.mod_lt _ (by omega)
  unfold leafN
  rw [shape]
  rw [if_neg (by simp), if_neg (by simp), if_neg (by omega), if_neg (by omega)]
  simp [shapes]

theorem shapes_all {t d : Nat} : ∀ {ks : List Nest}, (∀ k ∈ ks, shape t k false d = some true) → shapes t ks d = some true
  | [], _ => by simp [shapes]
  | k :: ks, h => by
    rw [shapes, h k (by simp)]
    exact shapes_all fun k' hk => h k' (by simp [hk])

theorem shapes_zero {t : Nat} {ks : List Nest} (h : ks ≠ []) : shapes t ks 0 = none := by
  cases ks with
  | nil => exact absurd rfl h
  | cons k ks => rw [shapes, shape_zero]

theorem shapes_set {t d : Nat} : ∀ {ks : List Nest} {i : Nat} {x : Nest}, i < ks.length → (∀ k ∈ ks, shape t k false d = some true) → shapes t (ks.set i x) d = shape t x false d
  | [], _, _, hi, _ => absurd hi (by simp)
  | k :: ks, 0, x, _, h => by
    rw [List.set_cons_zero, shapes]
    cases e : shape t x false d with
    | none => rfl
    | some b =>
      cases b with
      | false => rfl
      | true => exact shapes_all fun k' hk => h k' (by simp [hk])
  | k :: ks, i + 1, x, hi, h => by
    rw [List.set_cons_succ, shapes, h k (by simp)]
    exact shapes_set (by simpa using hi) fun k' hk => h k' (by simp [hk])

theorem shapes_kids {t : Nat} (ht : 1 ≤ t) {n i : Nat} (hi : i < n) (x : Nest) (d : Nat) :
    shapes t (((List.range n).map (leafN t)).set i x) (d + 1) = shape t x false (d + 1) := by
  refine shapes_set (by simpa using hi) fun k hk => ?_
  obtain ⟨j, _, rfl⟩ := List.mem_map.mp hk
  exact shape_leaf ht j d

theorem kids_ne {t n i : Nat} {x : Nest} (hi : i < n) : ((List.range n).map (leafN t)).set i x ≠ [] := by
  intro e
  have := congrArg List.length e
  simp at this
  omega

theorem shape_good {t : Nat} (ht : 1 ≤ t) {place : Nat → Nat} (hp : ∀ n, 1 ≤ n → place n < n) : ∀ (c : List Lev) (l : Lev) (r : Bool), (∀ x ∈ l :: c, 1 ≤ x.nk) → goodC t r (l :: c) →
    ∀ d, shape t (nest t place (l :: c)) r d = if d ≤ c.length then none else some true := by
  intro c
  induction c with
  | nil =>
    intro l r _ hg d
    cases d with
    | zero => rw [shape_zero]; simp
    | succ d =>
      obtain ⟨h1, h2, h3⟩ := hg
      rw [nest, shape, if_neg (by simp [h3]), if_neg (by simp), if_neg (by omega), if_neg (by intro ⟨a, b⟩; have := h1 a; omega)]
      simp [shapes]
  | cons l' c ih =>
    intro l r hn hg d
    obtain ⟨⟨h1, h2, h3⟩, h4, h5⟩ := hg
    cases d with
    | zero => rw [shape_zero]; simp
    | succ d =>
      have hk := hn l (by simp)
      rw [nest, shape, if_neg (by simp [h3]), if_neg (by simp [h4]), if_neg (by omega), if_neg (by intro ⟨a, b⟩; have := h1 a; omega)]
      cases d with
      | zero => rw [shapes_zero (kids_ne (hp _ hk))]; simp
      | succ d =>
        rw [shapes_kids ht (hp _ hk), ih l' false (fun x hx => hn x (by simp [hx])) h5]
        simp

theorem shape_bad {t : Nat} (ht : 1 ≤ t) {place : Nat → Nat} (hp : ∀ n, 1 ≤ n → place n < n) : ∀ (c : List Lev) (l : Lev) (r : Bool), (∀ x ∈ l :: c, 1 ≤ x.nk) → ¬ goodC t r (l :: c) →
    ∀ d, c.length < d → shape t (nest t place (l :: c)) r d = some false := by
  intro c
  induction c with
  | nil =>
    intro l r _ hg d hd
    cases d with
    | zero => simp at hd
    | succ d =>
      rw [nest, shape]
      by_cases h3 : l.row = l.size
      · rw [if_neg (by simp [h3]), if_neg (by simp)]
        by_cases h2 : l.size < 2 * t
        · rw [if_neg (by omega)]
          by_cases h1 : r = false ∧ l.size + 1 < t
          · rw [if_pos h1]
          · exact absurd ⟨fun hr => by have : ¬ l.size + 1 < t := fun h => h1 ⟨hr, h⟩
                                       omega, h2, h3⟩ hg
        · rw [if_pos (by omega)]
      · rw [if_pos h3]
  | cons l' c ih =>
    intro l r hn hg d hd
    cases d with
    | zero => simp at hd
    | succ d =>
      have hk := hn l (by simp)
      rw [nest, shape]
      by_cases h3 : l.row = l.size
      · rw [if_neg (by simp [h3])]
        by_cases h4 : l.nk = l.size + 1
        · rw [if_neg (by simp [h4])]
          by_cases h2 : l.size < 2 * t
          · rw [if_neg (by omega)]
            by_cases h1 : r = false ∧ l.size + 1 < t
            · rw [if_pos h1]
            · rw [if_neg h1]
              cases d with
              | zero => simp at hd
              | succ d =>
                rw [shapes_kids ht (hp _ hk)]
                refine ih l' false (fun x hx => hn x (by simp [hx])) (fun h5 => hg ⟨⟨fun hr => ?_, h2, h3⟩, h4, h5⟩) _ (by simpa using hd)
                have : ¬ l.size + 1 < t := fun h => h1 ⟨hr, h⟩
                omega
          · rw [if_pos (by omega)]
        · have e : (((List.range l.nk).map (leafN t)).set (place l.nk) (nest t place (l' :: c))).isEmpty = false := by
            have := kids_ne (t := t) (x := nest t place (l' :: c)) (hp _ hk)
            cases e : (((List.range l.nk).map (leafN t)).set (place l.nk) (nest t place (l' :: c))) with
            | nil => exact absurd e this
            | cons _ _ => rfl
          rw [if_pos ⟨e, by simpa using h4⟩]
      · rw [if_pos h3]
end Mine
end

section
open PySem PySem.W PyProof.Rows PySem.Calls PySem.Spec
set_option maxHeartbeats 8000000
namespace Mine
section
variable {prog : Program} {w : World} {A : Around} {h₀ : Heap} {L : Addr} {m : Str → Option Value} {env : Env} {ct elt : PySem.Expr} {x : Str} {scope : Scope} {cl : List (Str × Addr)} {s : Shared} {S : List (Addr × Obj) → Prop} {P : Nat → Value → Prop} {Fin : List Value → List (Addr × Obj) → Prop} {news : List (Addr × Obj)}

theorem compEnd_mono {s₁ s₂ : Shared} {I C D : Addr} {oI oC oD : Obj} {r r' : Value → List (Addr × Obj) → Prop} {y : Value} (h : ∀ nw, r y nw → r' y nw)
    (e : LCg.CompEnd h₀ L m s₁ I oI C oC D oD S r y s₂) : LCg.CompEnd h₀ L m s₁ I oI C oC D oD S r' y s₂ := by
  obtain ⟨h', tk, nw, e1, F, N, off, hS, hr⟩ := e
  exact ⟨h', tk, nw, e1, F, N, off, hS, h nw hr⟩

/-- a comprehension with one test, by what holds between its turns -/
theorem comp_inv {n : Nat} (Inv : Nat → List Value → List (Addr × Obj) → Prop) (h0 : Inv 0 [] news)
    (turn : ∀ i v I oI C oC D m₂ ys nw h tk (E' : Value → Shared → Prop), i < n → P i v → Inv i ys nw → LCg.NsObj oC m₂ → m₂ x = some v → Fr h₀ L h m → News h₀ L h ((I, oI) :: (C, oC) :: (D, LCg.lst ys) :: nw) → LCg.Off3 I C D nw → ((@Ne Nat I C) ∧ (@Ne Nat I D) ∧ (@Ne Nat C D)) →
      wpAny (model prog w) A (isTrue ct (compEnvC scope cl C env) (eval ct (compEnvC scope cl C env))) (fun b s' => if b = true then wpAny (model prog w) A (eval elt (compEnvC scope cl C env)) (LCg.CompEnd h₀ L m { s with heap := h, toks := tk } I oI C oC D (LCg.lst ys) S (fun y nw' => Inv (i + 1) (ys ++ [y]) nw')) E' s'
        else LCg.CompEnd h₀ L m { s with heap := h, toks := tk } I oI C oC D (LCg.lst ys) S (fun _ nw' => Inv (i + 1) ys nw') Value.none s') E' { s with heap := h, toks := tk })
    (fin : ∀ ys nw, Inv n ys nw → Fin ys nw) : LCt.CompRestT prog w A h₀ L m env ct elt x scope cl s S P Fin n 0 [] news := by
  have key : ∀ (j i : Nat) (ys : List Value) (nw : List (Addr × Obj)), i + j = n → Inv i ys nw → LCt.CompRestT prog w A h₀ L m env ct elt x scope cl s S P Fin j i ys nw := by
    intro j
    induction j with
    | zero =>
      intro i ys nw hi hy
      have e : i = n := by omega
      subst e
      exact LCt.CompRestT.zero (fin ys nw hy)
    | succ j ih =>
      intro i ys nw hi hy
      refine LCt.CompRestT.succ ?_
      intro v I oI C oC D m₂ h tk E' hv hC hx F N off ne
      refine wpAny_mono (turn i v I oI C oC D m₂ ys nw h tk E' (by omega) hv hy hC hx F N off ne) (fun b s₂ hq => ?_) fun _ _ e => e
      cases b with
      | true =>
        simp only [if_true] at hq ⊢
        exact wpAny_mono hq (fun y s₃ hr => compEnd_mono (fun nw' hi' => ih (i + 1) _ nw' (by omega) hi') hr) fun _ _ e => e
      | false =>
        simp only [Bool.false_eq_true, if_false] at hq ⊢
        exact compEnd_mono (fun nw' hi' => ih (i + 1) _ nw' (by omega) hi') hq
  exact key n 0 [] news (by omega) h0

/-- the same without a test -/
theorem comp_inv0 {n : Nat} (Inv : Nat → List Value → List (Addr × Obj) → Prop) (h0 : Inv 0 [] news)
    (turn : ∀ i v I oI C oC D m₂ ys nw h tk (E' : Value → Shared → Prop), i < n → P i v → Inv i ys nw → LCg.NsObj oC m₂ → m₂ x = some v → Fr h₀ L h m → News h₀ L h ((I, oI) :: (C, oC) :: (D, LCg.lst ys) :: nw) → LCg.Off3 I C D nw → ((@Ne Nat I C) ∧ (@Ne Nat I D) ∧ (@Ne Nat C D)) →
      wpAny (model prog w) A (eval elt (compEnvC scope cl C env)) (LCg.CompEnd h₀ L m { s with heap := h, toks := tk } I oI C oC D (LCg.lst ys) S (fun y nw' => Inv (i + 1) (ys ++ [y]) nw')) E' { s with heap := h, toks := tk })
    (fin : ∀ ys nw, Inv n ys nw → Fin ys nw) : LCg.CompRest prog w A h₀ L m env elt x scope cl s S P Fin n 0 [] news := by
  have key : ∀ (j i : Nat) (ys : List Value) (nw : List (Addr × Obj)), i + j = n → Inv i ys nw → LCg.CompRest prog w A h₀ L m env elt x scope cl s S P Fin j i ys nw := by
    intro j
    induction j with
    | zero =>
      intro i ys nw hi hy
      have e : i = n := by omega
      subst e
      exact LCg.CompRest.zero (fin ys nw hy)
    | succ j ih =>
      intro i ys nw hi hy
      refine LCg.CompRest.succ ?_
      intro v I oI C oC D m₂ h tk E' hv hC hx F N off ne
      exact wpAny_mono (turn i v I oI C oC D m₂ ys nw h tk E' (by omega) hv hy hC hx F N off ne) (fun y s₃ hr => compEnd_mono (fun nw' hi' => ih (i + 1) _ nw' (by omega) hi') hr) fun _ _ e => e
  exact key n 0 [] news (by omega) h0
end
end Mine
end

section
open PySem PySem.W PyProof.Rows PySem.Calls PySem.Spec
set_option maxHeartbeats 8000000
namespace Mine
/-- what a call of the def at f does: the data of its arguments lie in nw, a part of the ledger; what it makes is tl -/
def Says {δ : Type} (prog : Program) (w : World) (K : Frag) (p : Program) (loose : List Str) (mean : ExcName → Option Value) (mg mb : Str → Option Value) (kd : Nat) (f : Addr)
    (Pre : Heap → List (Addr × Obj) → List Value → δ → Prop) (Out : List (Addr × Obj) → List (Addr × Obj) → Value → δ → Prop) : Prop :=
  ∀ (dp un : Nat) (gd : Option (List Code)) (cn : Str) (cs : Scope) (a : Addr) (ccd : Value) (cl : List (Str × Addr)) (outer : List Env) (A₀ : Around) (base h₀ : Heap) (L : Addr) (m : Str → Option Value) (news nw : List (Addr × Obj)) (s : Shared) (vs : List Value) (d : δ)
    (Q E : Value → Shared → Prop),
    Below A₀ base outer h₀ → Fr h₀ L s.heap m → K.In h₀ → News h₀ L s.heap news → Top p loose mean mg mb h₀ → cs.kind = .function → (∀ p ∈ nw, p ∈ news) → Pre base nw vs d → dp + kd < recursionLimit → un + 20 * kd < cLine →
    (∀ r tl h' tk', Fr h₀ L h' m → News h₀ L h' (news ++ tl) → (∀ q ∈ news, ∀ p ∈ tl, p.1 ≠ q.1) → Out nw tl r d → Q r { s with heap := h', toks := tk' }) →
    wpAny (model prog w) (ktrTop dp un gd cn cs L a ccd cl outer) (call (.ref f) vs) Q E s
theorem says_use {δ : Type} {prog : Program} {w : World} {K : Frag} {p : Program} {loose : List Str} {mean : ExcName → Option Value} {mg mb : Str → Option Value} {kd : Nat} {f : Addr}
    {Pre : Heap → List (Addr × Obj) → List Value → δ → Prop} {Out : List (Addr × Obj) → List (Addr × Obj) → Value → δ → Prop} (C : Says prog w K p loose mean mg mb kd f Pre Out) (d : δ) (nw : List (Addr × Obj))
    {dp un : Nat} {gd : Option (List Code)} {cn : Str} {cs : Scope} {a : Addr} {ccd : Value} {cl : List (Str × Addr)} {outer : List Env} {A₀ : Around} {base h₀ : Heap} {L : Addr} {m : Str → Option Value} {news : List (Addr × Obj)} {s : Shared} {vs : List Value}
    {Q E : Value → Shared → Prop}
    (B : Below A₀ base outer h₀) (F : Fr h₀ L s.heap m) (X : K.In h₀) (N : News h₀ L s.heap news) (T : Top p loose mean mg mb h₀) (hk : cs.kind = .function) (hs : ∀ p ∈ nw, p ∈ news) (hp : Pre base nw vs d) (hd : dp + kd < recursionLimit) (hu : un + 20 * kd < cLine)
    (ret : ∀ r tl h' tk', Fr h₀ L h' m → News h₀ L h' (news ++ tl) → (∀ q ∈ news, ∀ p ∈ tl, p.1 ≠ q.1) → Out nw tl r d → Q r { s with heap := h', toks := tk' }) :
    wpAny (model prog w) (ktrTop dp un gd cn cs L a ccd cl outer) (call (.ref f) vs) Q E s := C _ _ _ _ _ _ _ _ _ _ _ _ _ _ _ _ _ _ _ _ _ B F X N T hk hs hp hd hu ret

abbrev pairD (p : Int × Int) : Dat := .tuple [.int p.1, .int p.2]
theorem pair_inv {nw : List (Addr × Obj)} {v : Value} {q : Int × Int} (h : DatIn nw v (pairD q)) :
    ∃ a n t u, v = .ref a ∧ (a, ({ cls := .type "tuple", data := .seq #[.int q.1 t, .int q.2 u] n } : Obj)) ∈ nw := by
  cases h with
  | tuple hm r =>
    cases r with
    | cons h1 r =>
      cases h1
      cases r with
      | cons h2 r =>
        cases h2
        cases r
        exact ⟨_, _, _, _, rfl, hm⟩
theorem list_inv {nw : List (Addr × Obj)} {v : Value} {ds : List Dat} (h : DatIn nw v (.list ds)) : ∃ a vs n, v = .ref a ∧ (a, listOf vs.toArray n) ∈ nw ∧ DatAll nw vs ds := by
  cases h with
  | list hm r => exact ⟨_, _, _, rfl, hm, r⟩
theorem sub_new {nw tl : List (Addr × Obj)} {e : Addr × Obj} : ∀ p ∈ nw ++ tl, p ∈ nw ++ (e :: tl) := fun _ hp => (List.mem_append.mp hp).elim (fun h => List.mem_append_left _ h) fun h => List.mem_append_right _ (.tail _ h)
theorem sub_left {nw tl : List (Addr × Obj)} : ∀ p ∈ nw, p ∈ nw ++ tl := fun _ hp => List.mem_append_left _ hp
theorem sub_mid {nw tl tl2 : List (Addr × Obj)} : ∀ p ∈ nw ++ tl, p ∈ nw ++ (tl2 ++ tl) := fun _ hp => (List.mem_append.mp hp).elim (fun h => List.mem_append_left _ h) fun h => List.mem_append_right _ (List.mem_append_right _ h)
theorem mid_of {a tl tl2 : List (Addr × Obj)} : ∀ p ∈ (a ++ tl) ++ tl2, p ∈ a ++ (tl2 ++ tl) := fun p hp => (List.mem_append.mp hp).elim (fun h => sub_mid p h) fun h => List.mem_append_right _ (List.mem_append_left _ h)
theorem mem_new {nw tl : List (Addr × Obj)} {e : Addr × Obj} : e ∈ nw ++ (e :: tl) := List.mem_append_right _ (.head _)
theorem pair_in {nw : List (Addr × Obj)} {a : Addr} {n : Nat} {t u : Tok} {q : Int × Int} (h : (a, ({ cls := .type "tuple", data := .seq [.int q.1 t, .int q.2 u].toArray n } : Obj)) ∈ nw) : DatIn nw (.ref a) (pairD q) :=
  .tuple h (.cons (.int _ _) (.cons (.int _ _) .nil))
theorem snocD {nw nw' : List (Addr × Obj)} {vs : List Value} {v : Value} {ds : List (Int × Int)} {q : Int × Int} (h : DatAll nw vs (ds.map pairD)) (hs : ∀ p ∈ nw, p ∈ nw') (hv : DatIn nw' v (pairD q)) : DatAll nw' (vs ++ [v]) ((ds ++ [q]).map pairD) := by
  rw [List.map_append]
  exact (h.mono hs).append (.one hv)
theorem all_get {α : Type} {f : α → Dat} {nw : List (Addr × Obj)} {vs : List Value} {ds : List α} (h : DatAll nw vs (ds.map f)) {i : Nat} {v : Value} (hv : vs[i]? = some v) : ∃ q, ds[i]? = some q ∧ DatIn nw v (f q) := by
  have e := h.length
  rw [List.length_map] at e
  have hi : i < vs.length := (List.getElem?_eq_some_iff.mp hv).1
  have hi' : i < (ds.map f).length := by rw [List.length_map]; omega
  obtain ⟨v', hv', hD⟩ := h.get hi'
  rw [hv] at hv'
  have ev := Option.some.inj hv'
  subst ev
  have hi2 : i < ds.length := by omega
  exact ⟨ds[i], List.getElem?_eq_getElem hi2, by simpa using hD⟩
theorem take_snoc {α : Type} {ds : List α} {i : Nat} {q : α} (h : ds[i]? = some q) : ds.take (i + 1) = ds.take i ++ [q] := by
  rw [List.take_add_one, h]; rfl
theorem pull1 {e : Addr × Obj} {nw tl : List (Addr × Obj)} : ∀ p ∈ nw ++ (e :: tl), p ∈ e :: (nw ++ tl) := by
  intro p hp
  rcases List.mem_append.mp hp with hp | hp
  · exact .tail _ (List.mem_append_left _ hp)
  · rcases List.mem_cons.mp hp with rfl | hp
    · exact .head _
    · exact .tail _ (List.mem_append_right _ hp)
theorem pull2 {e f : Addr × Obj} {nw tl : List (Addr × Obj)} : ∀ p ∈ nw ++ (e :: f :: tl), p ∈ e :: f :: (nw ++ tl) := by
  intro p hp
  rcases List.mem_cons.mp (pull1 p hp) with rfl | hp
  · exact .head _
  · exact .tail _ (pull1 p hp)
theorem front1 {e : Addr × Obj} {nw : List (Addr × Obj)} : ∀ p ∈ nw ++ [e], p ∈ e :: nw := by
  intro p hp
  rcases List.mem_append.mp hp with hp | hp
  · exact .tail _ hp
  · rw [List.mem_singleton.mp hp]; exact .head _
theorem off_cons {e : Addr × Obj} {nw tl : List (Addr × Obj)} (h1 : ∀ q ∈ nw, q.1 < e.1) (h2 : ∀ q ∈ nw, ∀ p ∈ tl, p.1 ≠ q.1) : ∀ q ∈ nw, ∀ p ∈ e :: tl, p.1 ≠ q.1 := by
  intro q hq p hp
  rcases List.mem_cons.mp hp with rfl | hp
  · exact Nat.ne_of_gt (h1 q hq)
  · exact h2 q hq p hp
theorem off_of {tl nw : List (Addr × Obj)} {o : Addr} (h : OwnOff tl (o :: nw.map (·.1))) : ∀ q ∈ nw, ∀ p ∈ tl, p.1 ≠ q.1 := fun q hq p hp => h p hp q.1 (.tail _ (List.mem_map.mpr ⟨q, hq, rfl⟩))
theorem off_of0 {tl nw : List (Addr × Obj)} (h : OwnOff tl (nw.map (·.1))) : ∀ q ∈ nw, ∀ p ∈ tl, p.1 ≠ q.1 := fun q hq p hp => h p hp q.1 (List.mem_map.mpr ⟨q, hq, rfl⟩)
theorem off1_mem {D : Addr} : ∀ {l : List (Addr × Obj)}, LCg.Off1 D l → ∀ p ∈ l, p.1 ≠ D
  | [], _, _, h => nomatch h
  | _ :: _, x, p, h => by
    rcases List.mem_cons.mp h with rfl | h
    · exact x.1
    · exact off1_mem x.2 p h

section
variable {prog : Program} {w : World} {A : Around} {E : Value → Shared → Prop} {s : Shared} {env : Env} {h₀ : Heap} {x : Str} {body : List Stmt} {Q : Flow → Shared → Prop}
set_option maxHeartbeats 3200000 in
/-- a loop over a list of the ledger, by what holds between its turns; G speaks of what the turns have made -/
theorem lp_list {σ : Type} {l : Addr} {vs : List Value} {nn : Nat} {m₀ : Str → Option Value} {news : List (Addr × Obj)} (Led : σ → List (Addr × Obj)) (cst : List (Addr × Obj)) (ps : σ → List (Str × Value)) (G : List (Addr × Obj) → σ → Prop) (stored : List Str) (P : Nat → σ → Prop) (adr : List Addr) (c₀ : σ)
    (hh : A.handled = none) (hl : (l, listOf vs.toArray nn) ∈ cst) (F : Fr h₀ env.locals s.heap m₀) (N : News h₀ env.locals s.heap news) (hn : ∀ p ∈ Led c₀ ++ (cst ++ []), p ∈ news) (hadr : ∀ c, (Led c ++ cst).map (·.1) = adr) (hf : G [] c₀) (hk : ∀ p ∈ ps c₀, m₀ p.1 = some p.2) (hp : P 0 c₀)
    (turn : ∀ (c : σ) tl i v (u : Str → Option Value) h tk own, vs[i]? = some v → KdSep own tl adr → OwnOff (tl ++ own) adr → G tl c → P i c →
      Fr h₀ env.locals h (fun y => if y = x then some v else kstB (fun z => if stored.contains z then u z else m₀ z) (ps c) y) → News h₀ env.locals h (Led c ++ (cst ++ (tl ++ own))) →
      wpAny (model prog w) A (execs body env) (InvPostG h₀ env.locals (KdS Led cst ps (fun nx c => ∃ tl, nx = cst ++ tl ∧ G tl c) x stored m₀ P adr (i + 1)) own { s with heap := h, toks := tk } Q) E { s with heap := h, toks := tk })
    (done : ∀ (c : σ) tl (u : Str → Option Value) h tk, OwnOff tl adr → G tl c → P vs.length c → Fr h₀ env.locals h (fun y => if y = x then u y else kstB (fun z => if stored.contains z then u z else m₀ z) (ps c) y) → News h₀ env.locals h (Led c ++ (cst ++ tl)) → Q .next { s with heap := h, toks := tk }) :
    wpAny (model prog w) A (pyIter (.ref l)) (fun it s₂ => LoopAtV prog w A h₀ env x body Q E it s₂) E s := by
  refine kdl_iter (news := Led c₀ ++ (cst ++ [])) (fun i m nx => KdS Led cst ps (fun nx c => ∃ tl, nx = cst ++ tl ∧ G tl c) x stored m₀ P adr i m nx) hh (List.mem_append.mpr (.inr (List.mem_append.mpr (.inl hl)))) F (fun p hp => N p (hn p hp))
    ⟨c₀, [], rfl, fun _ hp => (nomatch hp), ⟨[], rfl, hf⟩, hk, fun _ _ _ _ => rfl, hp⟩ ?_ ?_
  · rintro i v m₁ nx h tk own hv hoff _ ⟨c, tl, rfl, ht, ⟨tl', etl, hf'⟩, h1, h2, hp'⟩ F₁ N₁
    have etl' : tl = tl' := List.append_cancel_left etl
    subst etl'
    obtain ⟨o1, o2⟩ := kd_split (hadr c) hoff
    rw [List.append_assoc, List.append_assoc] at N₁
    refine wpAny_mono (turn c tl i v m₁ h tk own hv ⟨o1, o2, ht⟩ (kd_off o1 ht) hf' hp' (kst_fr h1 h2 F₁) N₁) (fun f s₂ p => ?_) fun _ _ x => x
    have up : InvEndG h₀ env.locals (KdS Led cst ps (fun nx c => ∃ tl, nx = cst ++ tl ∧ G tl c) x stored m₀ P adr (i + 1)) own { s with heap := h, toks := tk } s₂ →
        InvEndG h₀ env.locals (fun m' nx => (l, listOf vs.toArray nn) ∈ nx ∧ KdS Led cst ps (fun nx c => ∃ tl, nx = cst ++ tl ∧ G tl c) x stored m₀ P adr (i + 1) m' nx) own { s with heap := h, toks := tk } s₂ := by
      rintro ⟨h', tk', m', news', nx', e', F', N', hn', ho', ha, hS⟩
      refine ⟨h', tk', m', news', nx', e', F', N', hn', ho', ha, ?_, hS⟩
      obtain ⟨c', tl', rfl, _⟩ := hS
      exact List.mem_append.mpr (.inr (List.mem_append.mpr (.inl hl)))
    cases f with
    | ret v => exact p
    | brk => exact p
    | next => exact up p
    | cont => exact up p
  · rintro m₁ nx h tk ⟨c, tl, rfl, ht, ⟨tl', etl, hf'⟩, h1, h2, hp'⟩ F₁ N₁
    have etl' : tl = tl' := List.append_cancel_left etl
    subst etl'
    exact done c tl m₁ h tk ht hf' hp' (kst_frOut h1 h2 F₁) N₁
end

section
variable {σ τ : Type} {fv : σ → List Value} {fn : σ → Nat} {out : Addr} {cst : List (Addr × Obj)} {ps : σ → List (Str × Value)} {G : List (Addr × Obj) → σ → Prop} {x : Str} {stored : List Str} {m₀ : Str → Option Value} {P : τ → σ → Prop} {adr : List Addr} {pre : τ}
  {D : Addr} {o : Obj} {tl own news' : List (Addr × Obj)} {h₀ h' : Heap} {L : Addr} {m' : Str → Option Value} {s₁ : Shared} {tk : Nat}
/-- the end of a turn of a loop that fills one list, a turn that made one object -/
theorem out_end1 (c : σ)
    (h0 : KdSep own tl adr) (F : Fr h₀ L h' m') (N : News h₀ L h' news') (h1 : (out, listOf (fv c).toArray (fn c)) ∈ news') (h2 : (D, o) ∈ news') (hrest : ∀ p ∈ cst ++ (tl ++ own), p ∈ news') (hadr : out :: cst.map (·.1) = adr)
    (hlo : @LT.lt Nat _ out D) (hlr : AllLt D (cst ++ (tl ++ own))) (hk : ∀ p ∈ ps c, m' p.1 = some p.2) (hr : ∀ z, z ≠ x → (∀ p ∈ ps c, z ≠ p.1) → stored.contains z = false → m' z = m₀ z) (hf : G ((D, o) :: tl) c) (hp : P pre c) :
    InvEndG h₀ L (KdS (fun c => [(out, listOf (fv c).toArray (fn c))]) cst ps (fun nx c => ∃ tl, nx = cst ++ tl ∧ G tl c) x stored m₀ P adr pre) own s₁ { s₁ with heap := h', toks := tk } := by
  have hlt := ktn_ltOf hlr
  refine kd_end c [(D, o)] h0 F N (fun p hp => ?_) (fun p hp => hrest p (List.mem_append_right _ (List.mem_append_right _ hp))) hadr (fun q hq b hb' => ?_) (fun q hq p hp' => ?_) hk hr ⟨_, rfl, hf⟩ hp
  · rcases List.mem_append.mp hp with hp | hp
    · rw [List.mem_singleton.mp hp]; exact h1
    · rcases List.mem_append.mp hp with hp | hp
      · exact hrest p (List.mem_append_left _ hp)
      · rcases List.mem_cons.mp hp with rfl | hp
        · exact h2
        · exact hrest p (List.mem_append_right _ (List.mem_append_left _ hp))
  · rw [List.mem_singleton.mp hq]
    rw [← hadr] at hb'
    rcases List.mem_cons.mp hb' with rfl | hb'
    · exact Nat.ne_of_lt hlo
    · obtain ⟨p, hp', rfl⟩ := List.mem_map.mp hb'
      exact Nat.ne_of_lt (hlt p (List.mem_append_left _ hp'))
  · rw [List.mem_singleton.mp hq]
    exact Nat.ne_of_lt (hlt p (List.mem_append_right _ (List.mem_append_right _ hp')))
/-- .. a turn that made nothing -/
theorem out_end0 (c : σ)
    (h0 : KdSep own tl adr) (F : Fr h₀ L h' m') (N : News h₀ L h' news') (h1 : (out, listOf (fv c).toArray (fn c)) ∈ news') (hrest : ∀ p ∈ cst ++ (tl ++ own), p ∈ news') (hadr : out :: cst.map (·.1) = adr)
    (hk : ∀ p ∈ ps c, m' p.1 = some p.2) (hr : ∀ z, z ≠ x → (∀ p ∈ ps c, z ≠ p.1) → stored.contains z = false → m' z = m₀ z) (hf : G tl c) (hp : P pre c) :
    InvEndG h₀ L (KdS (fun c => [(out, listOf (fv c).toArray (fn c))]) cst ps (fun nx c => ∃ tl, nx = cst ++ tl ∧ G tl c) x stored m₀ P adr pre) own s₁ { s₁ with heap := h', toks := tk } := by
  refine kd_end c [] h0 F N (fun p hp => ?_) (fun p hp => hrest p (List.mem_append_right _ (List.mem_append_right _ hp))) hadr (fun q hq => nomatch hq) (fun q hq => nomatch hq) hk hr ⟨_, rfl, hf⟩ hp
  rcases List.mem_append.mp hp with hp | hp
  · rw [List.mem_singleton.mp hp]; exact h1
  · rcases List.mem_append.mp hp with hp | hp
    · exact hrest p (List.mem_append_left _ hp)
    · exact hrest p (List.mem_append_right _ (List.mem_append_left _ hp))
/-- the end of a turn that changes one object and makes nothing -/
theorem obj_end0 {fo : σ → Obj} (c : σ)
    (h0 : KdSep own tl adr) (F : Fr h₀ L h' m') (N : News h₀ L h' news') (h1 : (out, fo c) ∈ news') (hrest : ∀ p ∈ cst ++ (tl ++ own), p ∈ news') (hadr : out :: cst.map (·.1) = adr)
    (hk : ∀ p ∈ ps c, m' p.1 = some p.2) (hr : ∀ z, z ≠ x → (∀ p ∈ ps c, z ≠ p.1) → stored.contains z = false → m' z = m₀ z) (hf : G tl c) (hp : P pre c) :
    InvEndG h₀ L (KdS (fun c => [(out, fo c)]) cst ps (fun nx c => ∃ tl, nx = cst ++ tl ∧ G tl c) x stored m₀ P adr pre) own s₁ { s₁ with heap := h', toks := tk } := by
  refine kd_end c [] h0 F N (fun p hp => ?_) (fun p hp => hrest p (List.mem_append_right _ (List.mem_append_right _ hp))) hadr (fun q hq => nomatch hq) (fun q hq => nomatch hq) hk hr ⟨_, rfl, hf⟩ hp
  rcases List.mem_append.mp hp with hp | hp
  · rw [List.mem_singleton.mp hp]; exact h1
  · rcases List.mem_append.mp hp with hp | hp
    · exact hrest p (List.mem_append_left _ hp)
    · exact hrest p (List.mem_append_right _ (List.mem_append_left _ hp))
/-- the end of a turn that changes nothing that stood and made tl2 -/
theorem ret_end (c : σ) {tl2 : List (Addr × Obj)}
    (h0 : KdSep own tl adr) (F : Fr h₀ L h' m') (N : News h₀ L h' news') (hrest : ∀ p ∈ cst ++ (tl ++ own), p ∈ news') (h2 : ∀ p ∈ tl2, p ∈ news') (hadr : cst.map (·.1) = adr)
    (off : ∀ q ∈ cst ++ (tl ++ own), ∀ p ∈ tl2, p.1 ≠ q.1) (hk : ∀ p ∈ ps c, m' p.1 = some p.2) (hr : ∀ z, z ≠ x → (∀ p ∈ ps c, z ≠ p.1) → stored.contains z = false → m' z = m₀ z) (hf : G (tl2 ++ tl) c) (hp : P pre c) :
    InvEndG h₀ L (KdS (fun _ => []) cst ps (fun nx c => ∃ tl, nx = cst ++ tl ∧ G tl c) x stored m₀ P adr pre) own s₁ { s₁ with heap := h', toks := tk } := by
  refine kd_end c tl2 h0 F N (fun p hp => ?_) (fun p hp => hrest p (List.mem_append_right _ (List.mem_append_right _ hp))) hadr (fun q hq b hb' => ?_) (fun q hq p hp' => ?_) hk hr ⟨_, rfl, hf⟩ hp
  · rw [List.nil_append] at hp
    rcases List.mem_append.mp hp with hp | hp
    · exact hrest p (List.mem_append_left _ hp)
    · rcases List.mem_append.mp hp with hp | hp
      · exact h2 p hp
      · exact hrest p (List.mem_append_right _ (List.mem_append_left _ hp))
  · rw [← hadr] at hb'
    obtain ⟨p, hp', rfl⟩ := List.mem_map.mp hb'
    exact Ne.symm (off p (List.mem_append_left _ hp') q hq)
  · exact Ne.symm (off p (List.mem_append_right _ (List.mem_append_right _ hp')) q hq)
/-- the end of a turn that fills one list and made tl2 (the library's Facts) -/
theorem out_endN {Facts : List (Addr × Obj) → σ → Prop} (c : σ) {tl2 : List (Addr × Obj)}
    (h0 : KdSep own tl adr) (F : Fr h₀ L h' m') (N : News h₀ L h' news') (h1 : (out, listOf (fv c).toArray (fn c)) ∈ news') (hrest : ∀ p ∈ cst ++ (tl ++ own), p ∈ news') (h2 : ∀ p ∈ tl2, p ∈ news') (hadr : out :: cst.map (·.1) = adr)
    (offo : ∀ p ∈ tl2, p.1 ≠ out) (off : ∀ q ∈ cst ++ (tl ++ own), ∀ p ∈ tl2, p.1 ≠ q.1) (hk : ∀ p ∈ ps c, m' p.1 = some p.2) (hr : ∀ z, z ≠ x → (∀ p ∈ ps c, z ≠ p.1) → stored.contains z = false → m' z = m₀ z) (hf : Facts (cst ++ (tl2 ++ tl)) c) (hp : P pre c) :
    InvEndG h₀ L (KdS (fun c => [(out, listOf (fv c).toArray (fn c))]) cst ps Facts x stored m₀ P adr pre) own s₁ { s₁ with heap := h', toks := tk } := by
  refine kd_end c tl2 h0 F N (fun p hp => ?_) (fun p hp => hrest p (List.mem_append_right _ (List.mem_append_right _ hp))) hadr (fun q hq b hb' => ?_) (fun q hq p hp' => ?_) hk hr hf hp
  · rcases List.mem_append.mp hp with hp | hp
    · rw [List.mem_singleton.mp hp]; exact h1
    · rcases List.mem_append.mp hp with hp | hp
      · exact hrest p (List.mem_append_left _ hp)
      · rcases List.mem_append.mp hp with hp | hp
        · exact h2 p hp
        · exact hrest p (List.mem_append_right _ (List.mem_append_left _ hp))
  · rw [← hadr] at hb'
    rcases List.mem_cons.mp hb' with rfl | hb'
    · exact Ne.symm (offo q hq)
    · obtain ⟨p, hp', rfl⟩ := List.mem_map.mp hb'
      exact Ne.symm (off p (List.mem_append_left _ hp') q hq)
  · exact Ne.symm (off p (List.mem_append_right _ (List.mem_append_right _ hp')) q hq)
end
end Mine
end

section
open PySem PySem.W PyProof.Rows PySem.Calls PySem.Spec
set_option maxHeartbeats 8000000
namespace Mine
def Hold (p : Prop) : Prop := p
theorem hold {p : Prop} (h : Hold p) : p := h
mutual
def datN (item : Int) : Nest → Dat
  | .node s r ks => .tuple [.list (List.replicate s (.int item)), .list (List.replicate r (.int item)), .list (datNs item ks)]
def datNs (item : Int) : List Nest → List Dat
  | [] => []
  | k :: ks => datN item k :: datNs item ks
end
theorem datNs_map (item : Int) : ∀ ks, datNs item ks = ks.map (datN item)
  | [] => by simp [datNs]
  | k :: ks => by rw [datNs, datNs_map item ks]; rfl
section
variable {prog : Program} {w : World} {A : Around} {E : Value → Shared → Prop} {s : Shared} {h₀ : Heap} {L : Addr} {m : Str → Option Value} {news : List (Addr × Obj)} {l : Addr} {x i : Int} {n : Nat} {u t : Tok} {Q : Value → Shared → Prop}
theorem rep_all {nw : List (Addr × Obj)} : ∀ k : Nat, DatAll nw (List.replicate k (Value.int i t)) (List.replicate k (Dat.int i))
  | 0 => .nil
  | k + 1 => by rw [List.replicate_succ, List.replicate_succ]; exact .cons (.int _ _) (rep_all k)
/-- [item] * x -/
theorem rep_data (F : Fr h₀ L s.heap m) (N : News h₀ L s.heap news) (hm : (l, listOf [Value.int i t].toArray n) ∈ news) (h0 : 0 ≤ x) (h1 : x ≤ 1000)
    (h : ∀ D h', Fr h₀ L h' m → News h₀ L h' ((D, listOf (List.replicate x.toNat (Value.int i t)).toArray 0) :: news) → (∀ p ∈ news, p.1 < D) → Q (.ref D) { s with heap := h' }) :
    wpAny (model prog w) A (binaryOp .Mult (.ref l) (.int x u)) Q E s := by
  refine KM.mul (vs := [Value.int i t]) (ns := [i]) F N ⟨_, (N _ hm).1, rfl, n, rfl⟩ (.cons _ _ .nil) (by omega) (by omega) (by simp; omega) ?_
  intro D h' F' N' lt _ _ _ _ _ _
  have e : (List.replicate x.toNat [Value.int i t]).flatten = List.replicate x.toNat (Value.int i t) := by
    generalize x.toNat = k
    induction k with
    | zero => rfl
    | succ k ih => rw [List.replicate_succ, List.flatten_cons, ih, List.replicate_succ]; rfl
  rw [e] at N'
  exact h D h' F' N' lt
end
local macro_rules | `(tactic| walk_at "binaryOp Mult ref int") => `(tactic| refine hold ?_)
theorem swap_sub {nw tl : List (Addr × Obj)} : ∀ p ∈ nw ++ tl, p ∈ tl ++ nw := fun _ hp => (List.mem_append.mp hp).elim (fun h => List.mem_append_right _ h) fun h => List.mem_append_left _ h
theorem leaf_ct (w : World) (mean : ExcName → Option Value) (mg mb : Str → Option Value) :
    Says (δ := Nat × Int) PySem.Challenge.rw_k16_0019.row.prog w (hd.heap_39 w.params) hd.view_39 (looseW hd.view_39 []) mean mg mb 4 48
      (fun _ _ vs d => ∃ t1 t2, vs = [.int (d.1 : Int) t1, .int d.2 t2] ∧ d.1 ≤ 20)
      (fun _ tl r d => DatIn tl r (datN d.2 (.node d.1 d.1 []))) := by
  k_fill
  w_top off
  unfold Says
  intro dp un gd cn cs a ccd cl outer A₀ base h₀ L m news nw s vs d Q E B F X N T hk hsub hPre hd hu hret
  obtain ⟨t1, t2, rfl, hlen⟩ := hPre
  obtain ⟨k, item⟩ := d
  dsimp only at *
  refine wpAny_call ?_
  k_dflt ktr_enter
  k_steps
  unfold Hold
  refine rep_data (by k_asm) (by k_asm) (.head _) (by omega) (by omega) ?_
  intro D1 g1 G1 N1 l1
  (try dsimp only)
  k_steps
  unfold Hold
  refine rep_data (by k_asm) (by k_asm) (.head _) (by omega) (by omega) ?_
  intro D2 g2 G2 N2 l2
  (try dsimp only)
  k_steps
  rename News h₀ _ _ _ => lN
  rename (∀ p : Addr × Obj, p ∈ news → p.1 < _) => hlt0
  have e1 : @LT.lt Nat _ _ D1 := l1 _ (.head _)
  have e2 : @LT.lt Nat _ _ D2 := l2 _ (.head _)
  dsimp only at e1 e2
  simp only [Int.toNat_natCast] at lN
  refine hret _ [_, _, _, _, _, _] _ _ (by assumption) (kst_newsOf lN swap_sub) (fun q hq p hp => ?_) ?_
  · have h0 : @LT.lt Nat _ q.1 _ := hlt0 q hq
    simp only [List.mem_cons, List.not_mem_nil, or_false] at hp
    refine @Nat.ne_of_gt _ _ ?_
    rcases hp with rfl | rfl | rfl | rfl | rfl | rfl <;> dsimp only <;> omega
  · rw [datN, datNs]
    exact .tuple (.head _) (.cons (.list (.tail _ (.tail _ (.tail _ (.tail _ (.head _))))) (rep_all k)) (.cons (.list (.tail _ (.tail _ (.head _))) (rep_all k)) (.cons (.list (.tail _ (.head _)) .nil) .nil)))
end Mine
end

section
open PySem PySem.W PyProof.Rows PySem.Calls PySem.Spec
set_option maxHeartbeats 8000000
namespace Mine
mutual
def okN : Nest → Bool
  | .node s r ks => decide (s ≤ 50) && decide (r ≤ 50) && decide (ks.length ≤ 50) && okNs ks
def okNs : List Nest → Bool
  | [] => true
  | k :: ks => okN k && okNs ks
end
theorem okNs_mem : ∀ {ks : List Nest}, okNs ks = true → ∀ k ∈ ks, okN k = true
  | [], _, _, h => nomatch h
  | k :: ks, h, x, hx => by
    rw [okNs, Bool.and_eq_true] at h
    rcases List.mem_cons.mp hx with rfl | hx
    · exact h.1
    · exact okNs_mem h.2 x hx
theorem node_inv {nw : List (Addr × Obj)} {item : Int} {v : Value} {sz r : Nat} {ks : List Nest} (h : DatIn nw v (datN item (.node sz r ks))) :
    ∃ na nn ka kv kn ra rv rn ca cv cn, v = .ref na ∧ (na, ({ cls := .type "tuple", data := .seq #[.ref ka, .ref ra, .ref ca] nn } : Obj)) ∈ nw ∧
      (ka, listOf (List.toArray kv) kn) ∈ nw ∧ kv.length = sz ∧ (ra, listOf (List.toArray rv) rn) ∈ nw ∧ rv.length = r ∧ (ca, listOf (List.toArray cv) cn) ∈ nw ∧ DatAll nw cv (ks.map (datN item)) := by
  rw [datN, datNs_map] at h
  cases h with
  | tuple hm r =>
    cases r with
    | cons h1 r =>
      cases h1 with
      | list m1 d1 =>
        cases r with
        | cons h2 r =>
          cases h2 with
          | list m2 d2 =>
            cases r with
            | cons h3 r =>
              cases h3 with
              | list m3 d3 =>
                cases r
                have e1 := d1.length
                have e2 := d2.length
                rw [List.length_replicate] at e1 e2
                exact ⟨_, _, _, _, _, _, _, _, _, _, _, rfl, hm, m1, e1, m2, e2, m3, d3⟩
theorem raised_sub {base : Heap} {l : List Env} {e : Addr} {cls : Value} {t : Addr} {vs : List Value} {news news' : List (Addr × Obj)} {h : Heap} (R : RaisedK base l e cls t vs news h) (hs : ∀ p ∈ news', p ∈ news) : RaisedK base l e cls t vs news' h := by
  obtain ⟨⟨B, b1, b2, b3, b4⟩, r⟩ := R
  exact ⟨⟨B, b1, fun q hq => b2 q (hs q hq), b3, b4⟩, r⟩

theorem kqd_up : ∀ (n : Nat) (d : Dat), kqdOk n d = true → kqdOk (n + 1) d = true := by
  intro n
  induction n with
  | zero => intro d h; cases d <;> simp_all [kqdOk]
  | succ n ih =>
    intro d h
    cases d with
    | tuple ds =>
      simp only [kqdOk, List.all_eq_true] at h ⊢
      exact fun x hx => ih x (h x hx)
    | list ds =>
      simp only [kqdOk, List.all_eq_true] at h ⊢
      exact fun x hx => ih x (h x hx)
    | _ => simp_all [kqdOk]
theorem kqd_kids {item : Int} {sz r : Nat} {ks : List Nest} (h : kqdOk 8 (datN item (.node sz r ks)) = true) : ∀ k ∈ ks, kqdOk 8 (datN item k) = true := by
  rw [datN, datNs_map] at h
  simp only [kqdOk, List.all_cons, List.all_nil, Bool.and_true, Bool.and_eq_true, List.all_eq_true] at h
  intro k hk
  exact kqd_up _ _ (kqd_up _ _ (h.2.2 _ (List.mem_map.mpr ⟨k, hk, rfl⟩)))
section
variable {prog : Program} {w : World} {A : Around} {E : Value → Shared → Prop} {s : Shared} {h₀ : Heap} {L a b : Addr} {news n₁ : List (Addr × Obj)} {xs : List Value} {ka kb : Nat} {ds : List Dat} {Q : Value → Shared → Prop}
theorem ne_nil (N : News h₀ L s.heap news) (ma : (a, listOf xs.toArray ka) ∈ news) (Da : DatAll n₁ xs ds) (sa : ∀ p ∈ n₁, p ∈ news) (mb : (b, listOf #[] kb) ∈ news)
    (ha : ∀ d ∈ ds, kqdOk 8 d = true) (hu : A.units + 64 < cLine) (h : Q (.bool (!ds.isEmpty)) s) : wpAny (model prog w) A (compareOp .NotEq (.ref a) (.ref b)) Q E s := by
  refine kqd_ne (n₂ := []) (ys := []) (es := []) N ma rfl rfl Da sa mb rfl rfl .nil (fun _ h => nomatch h) ha (fun _ h => nomatch h) hu ?_
  cases ds with
  | nil => simpa using h
  | cons d ds => simpa using h
end
theorem shape_fail {t sz r d : Nat} {ks : List Nest} {root : Bool} (h : r ≠ sz ∨ (ks.isEmpty = false ∧ ks.length ≠ sz + 1) ∨ 2 * t ≤ sz ∨ (root = false ∧ sz + 1 < t)) : shape t (.node sz r ks) root (d + 1) = some false := by
  rw [shape]
  by_cases h1 : r ≠ sz
  · rw [if_pos h1]
  · rw [if_neg h1]
    by_cases h2 : ks.isEmpty = false ∧ ks.length ≠ sz + 1
    · rw [if_pos h2]
    · rw [if_neg h2]
      by_cases h3 : sz ≥ 2 * t
      · rw [if_pos h3]
      · rw [if_neg h3]
        by_cases h4 : root = false ∧ sz + 1 < t
        · rw [if_pos h4]
        · rcases h with h | h | h | h
          · exact absurd h h1
          · exact absurd h h2
          · exact absurd h h3
          · exact absurd h h4
theorem shape_go {t sz r d : Nat} {ks : List Nest} {root : Bool} (h1 : r = sz) (h2 : ks.isEmpty = true ∨ ks.length = sz + 1) (h3 : sz < 2 * t) (h4 : root = true ∨ t ≤ sz + 1) : shape t (.node sz r ks) root (d + 1) = shapes t ks d := by
  rw [shape, if_neg (fun h => h h1), if_neg (fun ⟨a, b⟩ => h2.elim (fun e => by rw [a] at e; cases e) b), if_neg (by omega), if_neg (fun ⟨a, b⟩ => h4.elim (fun e => by rw [a] at e; cases e) (by omega))]
theorem tail4 {a b c d : Addr × Obj} {l : List (Addr × Obj)} : ∀ p ∈ l, p ∈ a :: b :: c :: d :: l := fun _ h => .tail _ (.tail _ (.tail _ (.tail _ h)))
theorem tail5 {a b c d e : Addr × Obj} {l : List (Addr × Obj)} : ∀ p ∈ l, p ∈ a :: b :: c :: d :: e :: l := fun _ h => .tail _ (tail4 _ h)

def ShapeTells (w : World) (mean : ExcName → Option Value) (mg mb : Str → Option Value) (item : Int) (t d : Nat) : Prop :=
  ∀ (N : Nest) (root : Bool) (dp un : Nat) (gd : Option (List Code)) (cn : Str) (cs : Scope) (a : Addr) (ccd : Value) (cl : List (Str × Addr)) (outer : List Env) (A₀ : Around) (base h₀ : Heap) (L : Addr) (m : Str → Option Value) (news nw : List (Addr × Obj)) (s : Shared) (v : Value) (tt td : Tok)
    (Q E : Value → Shared → Prop), okN N = true → kqdOk 8 (datN item N) = true →
    Below A₀ base outer h₀ → Fr h₀ L s.heap m → (hd.heap_39 w.params).In h₀ → News h₀ L s.heap news → Top hd.view_39 (looseW hd.view_39 []) mean mg mb h₀ → cs.kind = .function → (∀ p ∈ nw, p ∈ news) → DatIn nw v (datN item N) → dp + d + 10 < recursionLimit → un + 20 * (d + 10) < cLine →
    (∀ b h' tk', shape t N root d = some b → Fr h₀ L h' m → News h₀ L h' news → Q (.bool b) { s with heap := h', toks := tk' }) →
    (∀ e ta vs g h' tk', shape t N root d = none → Fr h₀ L g m → RaisedK base (envX cn cs L a ccd cl :: outer) e (.ref 24) ta vs news h' → g.UpToSlots h' → E (.ref e) { s with heap := h', toks := tk' }) →
    wpAny (model PySem.Challenge.rw_k16_0019.row.prog w) (ktrTop dp un gd cn cs L a ccd cl outer) (call (.ref 34) [v, .int (t : Int) tt, .bool root, .int (d : Int) td]) Q E s

theorem shape_zero_ct (w : World) (mean : ExcName → Option Value) (mg mb : Str → Option Value) (item : Int) (t : Nat) (ht : 1 ≤ t ∧ t ≤ 10) : ShapeTells w mean mg mb item t 0 := by
  have hfill : PySem.Challenge.rw_k16_0019.row.prog = PySem.Challenge.rw_k16_0019.row.prog := rfl
  unfold ShapeTells
  k_fill
  w_top off
  intro N root dp un gd cn cs a ccd cl outer A₀ base h₀ L m news nw s v tt td Q E hok hkq B F X N0 T hk hsub hDat hd hu hret hexc
  obtain ⟨sz, r, ks⟩ := N
  obtain ⟨na, nn, ka, kv, kn, ra, rv, rn, ca, cv, cnn, rfl, hnm, hkm, hkl, hrm, hrl, hcm, hcd⟩ := node_inv hDat
  refine wpAny_call ?_
  k_dflt ktr_enter
  k_steps
  exact hexc _ _ _ _ _ _ (by rw [shape_zero]) (by assumption) (by assumption) (by assumption)

local macro_rules | `(tactic| walk_at "compareOp NotEq ref ref") => `(tactic| refine hold ?_)
local macro_rules | `(tactic| walk_at "call ref") => `(tactic| ((with_reducible show wpAny _ _ (call (Value.ref 34) _) _ _ _); refine hold ?_))
local macro_rules | `(tactic| walk_at "pyIter ref") => `(tactic| refine hold ?_)
local macro_rules | `(tactic| walk_at "exec For Name Name cons nil") => `(tactic| ((rename Fr _ _ _ _ => lF'); (with_unfolding_all refine' For_invVF lF' ?k1 ?k2 ?_; (case k1 => exact rfl); (case k2 => exact rfl))))
local macro_rules | `(tactic| walk_at "call builtin:len") => `(tactic| ((with_reducible show wpAny _ _ (call (Value.builtin "len") [Value.ref _]) _ _ _); k_dflt (refine kst_len (by k_asm) (by k_mem) (by first | rfl | assumption) (by omega) ?_)))
theorem shape_succ_ct (w : World) (mean : ExcName → Option Value) (mg mb : Str → Option Value) (item : Int) (t d : Nat) (ht : 1 ≤ t ∧ t ≤ 10) (IH : ShapeTells w mean mg mb item t d) : ShapeTells w mean mg mb item t (d + 1) := by
  have hfill : PySem.Challenge.rw_k16_0019.row.prog = PySem.Challenge.rw_k16_0019.row.prog := rfl
  unfold ShapeTells
  k_fill
  w_top off
  intro N root dp un gd cn cs a ccd cl outer A₀ base h₀ L m news nw s v tt td Q E hok hkq B F X N0 T hk hsub hDat hd hu hret hexc
  obtain ⟨sz, r, ks⟩ := N
  obtain ⟨na, nn, ka, kv, kn, ra, rv, rn, ca, cv, cnn, rfl, hnm, hkm, hkl, hrm, hrl, hcm, hcd⟩ := node_inv hDat
  rw [okN] at hok
  simp only [Bool.and_eq_true, decide_eq_true_eq] at hok
  obtain ⟨⟨⟨hok1, hok2⟩, hok3⟩, hok4⟩ := hok
  have hcl := hcd.length
  rw [List.length_map] at hcl
  have N1 := kst_newsOf (l' := (na, ({ cls := .type "tuple", data := .seq #[.ref ka, .ref ra, .ref ca] nn } : Obj)) :: (ka, listOf kv.toArray kn) :: (ra, listOf rv.toArray rn) :: (ca, listOf cv.toArray cnn) :: news) N0 (by
    intro p hp
    simp only [List.mem_cons] at hp
    rcases hp with rfl | rfl | rfl | rfl | hp
    · exact hsub _ hnm
    · exact hsub _ hkm
    · exact hsub _ hrm
    · exact hsub _ hcm
    · exact hp)
  clear N0
  have hkl2 : kv.length ≤ 50 := by omega
  have hrl2 : rv.length ≤ 50 := by omega
  have hcl2 : cv.length ≤ 50 := by omega
  rw [show ((d + 1 : Nat) : Int) = (d : Int) + 1 from by omega]
  refine wpAny_call ?_
  k_dflt ktr_enter
  k_steps
  · exfalso; omega
  · rename News h₀ _ _ _ => lN
    refine hret false _ _ ?_ (by assumption) (kst_newsOf lN tail4)
    rw [shape, if_pos (by omega)]
  · unfold Hold
    refine ne_nil (by k_asm) (.tail _ (.tail _ (.tail _ (.tail _ (.head _))))) hcd (fun p hp => tail5 p (hsub p hp)) (.head _) (fun x hx => ?_) (by simp only [units_deeper]; omega) ?_
    · obtain ⟨k, hk2, rfl⟩ := List.mem_map.mp hx
      exact kqd_kids hkq k hk2
    rw [List.isEmpty_map]
    (try dsimp only)
    have hkids := kqd_kids hkq
    have hokk := okNs_mem hok4
    cases hemp : ks.isEmpty
    all_goals (try dsimp only [Bool.not_true, Bool.not_false])
    all_goals k_steps
    all_goals first
      | (rename News h₀ _ _ _ => lN
         refine hret false _ _ ?_ (by assumption) (kst_newsOf lN tail5)
         exact shape_fail (by first | (exact .inr (.inr (.inl (by omega)))) | (exact .inr (.inr (.inr ⟨by assumption, by omega⟩))) | (exact .inr (.inl ⟨hemp, by omega⟩))))
      | skip
    all_goals unfold Hold
    all_goals (have hgo : shape t (.node sz r ks) root (d + 1) = shapes t ks d := shape_go (by omega) (by first | exact .inl hemp | exact .inr (by omega)) (by omega) (by first | exact .inl (by assumption) | exact .inr (by omega)))
    all_goals (rename Fr _ _ _ _ => lF)
    all_goals (rename News _ _ _ _ => lN)
    all_goals (refine lp_list (σ := Unit) (fun _ => []) news (fun _ => []) (fun _ _ => True) [] (fun i _ => shapes t ks d = shapes t (ks.drop i) d) (news.map (·.1)) () rfl (hsub _ hcm) lF lN (fun p hp => tail5 p (by simpa using hp)) (fun _ => rfl) trivial (by simp) (by simp) ?_ ?_)
    · rintro ⟨⟩ tl i v0 u h tk own hi hsep hoff _ hP F1 N1
      clear lF lN
      obtain ⟨q, hq, hD⟩ := all_get hcd hi
      obtain ⟨qs, qr, qk⟩ := q
      obtain ⟨qa, _, _, _, _, _, _, _, _, _, _, rfl, _⟩ := node_inv hD
      have hqm : Nest.node qs qr qk ∈ ks := List.mem_of_getElem? hq
      have hdrop : ks.drop i = Nest.node qs qr qk :: ks.drop (i + 1) := by
        obtain ⟨hi1, hi2⟩ := List.getElem?_eq_some_iff.mp hq
        rw [List.drop_eq_getElem_cons hi1, hi2]
      rw [hdrop, shapes] at hP
      rw [List.nil_append] at N1
      k_steps
      unfold Hold
      rw [show (d : Int) + 1 - 1 = (d : Int) from by omega]
      refine' IH (.node qs qr qk) false _ _ _ _ _ _ _ _ _ _ _ _ _ _ (news ++ (tl ++ own)) nw _ _ _ _ _ _ (hokk _ hqm) (hkids _ hqm) ?k1 ?k2 ?k3 ?k4 ?k5 ?k6 ?k7 hD ?k9 ?k10 ?_ ?_
      (case k1 => k_asm)
      (case k2 => k_asm)
      (case k3 => k_asm)
      (case k4 => k_asm)
      (case k5 => k_asm)
      (case k6 => exact rfl)
      (case k7 => exact fun p hp => List.mem_append_left _ (hsub p hp))
      (case k9 => (simp only [depth_deeper]; omega))
      (case k10 => (simp only [units_deeper]; omega))
      · intro b9 h9 tk9 hsh F9 N9
        rw [hsh] at hP
        clear F1 N1
        cases b9
        · (try dsimp only)
          k_steps
          rename News h₀ _ _ _ => lN
          exact hret false _ _ (hgo.trans hP) (by assumption) (kst_newsOf lN sub_left)
        · (try dsimp only)
          k_steps
          exact ret_end () (tl2 := []) hsep F9 N9 (fun p hp => hp) (fun _ h => nomatch h) (by rfl) (fun _ _ _ h => nomatch h) (by kst_all) (by intro z h1 h2 h3; simp only [kstB, h1, if_false, List.contains_nil, Bool.false_eq_true]) trivial hP
      · intro e9 ta9 vs9 g9 h9 tk9 hsh F9 R9 U9
        rw [hsh] at hP
        k_unfold
        exact leave_onK (by assumption) F9 R9 U9 (fun h' R' U' => hexc _ _ _ _ _ _ (hgo.trans hP) (by assumption) (raised_sub R' sub_left) U')
    · rintro ⟨⟩ tl u h tk hoff _ hP F1 N1
      clear lF lN
      rw [hcl, List.drop_length, shapes] at hP
      rw [List.nil_append] at N1
      (try dsimp only)
      k_steps
      rename News h₀ _ _ _ => lN
      exact hret true _ _ (hgo.trans hP) (by assumption) (kst_newsOf lN sub_left)
    · rintro ⟨⟩ tl i v0 u h tk own hi hsep hoff _ hP F1 N1
      clear lF lN
      obtain ⟨q, hq, hD⟩ := all_get hcd hi
      obtain ⟨qs, qr, qk⟩ := q
      obtain ⟨qa, _, _, _, _, _, _, _, _, _, _, rfl, _⟩ := node_inv hD
      have hqm : Nest.node qs qr qk ∈ ks := List.mem_of_getElem? hq
      have hdrop : ks.drop i = Nest.node qs qr qk :: ks.drop (i + 1) := by
        obtain ⟨hi1, hi2⟩ := List.getElem?_eq_some_iff.mp hq
        rw [List.drop_eq_getElem_cons hi1, hi2]
      rw [hdrop, shapes] at hP
      rw [List.nil_append] at N1
      k_steps
      unfold Hold
      rw [show (d : Int) + 1 - 1 = (d : Int) from by omega]
      refine' IH (.node qs qr qk) false _ _ _ _ _ _ _ _ _ _ _ _ _ _ (news ++ (tl ++ own)) nw _ _ _ _ _ _ (hokk _ hqm) (hkids _ hqm) ?k1 ?k2 ?k3 ?k4 ?k5 ?k6 ?k7 hD ?k9 ?k10 ?_ ?_
      (case k1 => k_asm)
      (case k2 => k_asm)
      (case k3 => k_asm)
      (case k4 => k_asm)
      (case k5 => k_asm)
      (case k6 => exact rfl)
      (case k7 => exact fun p hp => List.mem_append_left _ (hsub p hp))
      (case k9 => (simp only [depth_deeper]; omega))
      (case k10 => (simp only [units_deeper]; omega))
      · intro b9 h9 tk9 hsh F9 N9
        rw [hsh] at hP
        clear F1 N1
        cases b9
        · (try dsimp only)
          k_steps
          rename News h₀ _ _ _ => lN
          exact hret false _ _ (hgo.trans hP) (by assumption) (kst_newsOf lN sub_left)
        · (try dsimp only)
          k_steps
          exact ret_end () (tl2 := []) hsep F9 N9 (fun p hp => hp) (fun _ h => nomatch h) (by rfl) (fun _ _ _ h => nomatch h) (by kst_all) (by intro z h1 h2 h3; simp only [kstB, h1, if_false, List.contains_nil, Bool.false_eq_true]) trivial hP
      · intro e9 ta9 vs9 g9 h9 tk9 hsh F9 R9 U9
        rw [hsh] at hP
        k_unfold
        exact leave_onK (by assumption) F9 R9 U9 (fun h' R' U' => hexc _ _ _ _ _ _ (hgo.trans hP) (by assumption) (raised_sub R' sub_left) U')
    · rintro ⟨⟩ tl u h tk hoff _ hP F1 N1
      clear lF lN
      rw [hcl, List.drop_length, shapes] at hP
      rw [List.nil_append] at N1
      (try dsimp only)
      k_steps
      rename News h₀ _ _ _ => lN
      exact hret true _ _ (hgo.trans hP) (by assumption) (kst_newsOf lN sub_left)
    · rintro ⟨⟩ tl i v0 u h tk own hi hsep hoff _ hP F1 N1
      clear lF lN
      obtain ⟨q, hq, hD⟩ := all_get hcd hi
      obtain ⟨qs, qr, qk⟩ := q
      obtain ⟨qa, _, _, _, _, _, _, _, _, _, _, rfl, _⟩ := node_inv hD
      have hqm : Nest.node qs qr qk ∈ ks := List.mem_of_getElem? hq
      have hdrop : ks.drop i = Nest.node qs qr qk :: ks.drop (i + 1) := by
        obtain ⟨hi1, hi2⟩ := List.getElem?_eq_some_iff.mp hq
        rw [List.drop_eq_getElem_cons hi1, hi2]
      rw [hdrop, shapes] at hP
      rw [List.nil_append] at N1
      k_steps
      unfold Hold
      rw [show (d : Int) + 1 - 1 = (d : Int) from by omega]
      refine' IH (.node qs qr qk) false _ _ _ _ _ _ _ _ _ _ _ _ _ _ (news ++ (tl ++ own)) nw _ _ _ _ _ _ (hokk _ hqm) (hkids _ hqm) ?k1 ?k2 ?k3 ?k4 ?k5 ?k6 ?k7 hD ?k9 ?k10 ?_ ?_
      (case k1 => k_asm)
      (case k2 => k_asm)
      (case k3 => k_asm)
      (case k4 => k_asm)
      (case k5 => k_asm)
      (case k6 => exact rfl)
      (case k7 => exact fun p hp => List.mem_append_left _ (hsub p hp))
      (case k9 => (simp only [depth_deeper]; omega))
      (case k10 => (simp only [units_deeper]; omega))
      · intro b9 h9 tk9 hsh F9 N9
        rw [hsh] at hP
        clear F1 N1
        cases b9
        · (try dsimp only)
          k_steps
          rename News h₀ _ _ _ => lN
          exact hret false _ _ (hgo.trans hP) (by assumption) (kst_newsOf lN sub_left)
        · (try dsimp only)
          k_steps
          exact ret_end () (tl2 := []) hsep F9 N9 (fun p hp => hp) (fun _ h => nomatch h) (by rfl) (fun _ _ _ h => nomatch h) (by kst_all) (by intro z h1 h2 h3; simp only [kstB, h1, if_false, List.contains_nil, Bool.false_eq_true]) trivial hP
      · intro e9 ta9 vs9 g9 h9 tk9 hsh F9 R9 U9
        rw [hsh] at hP
        k_unfold
        exact leave_onK (by assumption) F9 R9 U9 (fun h' R' U' => hexc _ _ _ _ _ _ (hgo.trans hP) (by assumption) (raised_sub R' sub_left) U')
    · rintro ⟨⟩ tl u h tk hoff _ hP F1 N1
      clear lF lN
      rw [hcl, List.drop_length, shapes] at hP
      rw [List.nil_append] at N1
      (try dsimp only)
      k_steps
      rename News h₀ _ _ _ => lN
      exact hret true _ _ (hgo.trans hP) (by assumption) (kst_newsOf lN sub_left)
    · rintro ⟨⟩ tl i v0 u h tk own hi hsep hoff _ hP F1 N1
      clear lF lN
      obtain ⟨q, hq, hD⟩ := all_get hcd hi
      obtain ⟨qs, qr, qk⟩ := q
      obtain ⟨qa, _, _, _, _, _, _, _, _, _, _, rfl, _⟩ := node_inv hD
      have hqm : Nest.node qs qr qk ∈ ks := List.mem_of_getElem? hq
      have hdrop : ks.drop i = Nest.node qs qr qk :: ks.drop (i + 1) := by
        obtain ⟨hi1, hi2⟩ := List.getElem?_eq_some_iff.mp hq
        rw [List.drop_eq_getElem_cons hi1, hi2]
      rw [hdrop, shapes] at hP
      rw [List.nil_append] at N1
      k_steps
      unfold Hold
      rw [show (d : Int) + 1 - 1 = (d : Int) from by omega]
      refine' IH (.node qs qr qk) false _ _ _ _ _ _ _ _ _ _ _ _ _ _ (news ++ (tl ++ own)) nw _ _ _ _ _ _ (hokk _ hqm) (hkids _ hqm) ?k1 ?k2 ?k3 ?k4 ?k5 ?k6 ?k7 hD ?k9 ?k10 ?_ ?_
      (case k1 => k_asm)
      (case k2 => k_asm)
      (case k3 => k_asm)
      (case k4 => k_asm)
      (case k5 => k_asm)
      (case k6 => exact rfl)
      (case k7 => exact fun p hp => List.mem_append_left _ (hsub p hp))
      (case k9 => (simp only [depth_deeper]; omega))
      (case k10 => (simp only [units_deeper]; omega))
      · intro b9 h9 tk9 hsh F9 N9
        rw [hsh] at hP
        clear F1 N1
        cases b9
        · (try dsimp only)
          k_steps
          rename News h₀ _ _ _ => lN
          exact hret false _ _ (hgo.trans hP) (by assumption) (kst_newsOf lN sub_left)
        · (try dsimp only)
          k_steps
          exact ret_end () (tl2 := []) hsep F9 N9 (fun p hp => hp) (fun _ h => nomatch h) (by rfl) (fun _ _ _ h => nomatch h) (by kst_all) (by intro z h1 h2 h3; simp only [kstB, h1, if_false, List.contains_nil, Bool.false_eq_true]) trivial hP
      · intro e9 ta9 vs9 g9 h9 tk9 hsh F9 R9 U9
        rw [hsh] at hP
        k_unfold
        exact leave_onK (by assumption) F9 R9 U9 (fun h' R' U' => hexc _ _ _ _ _ _ (hgo.trans hP) (by assumption) (raised_sub R' sub_left) U')
    · rintro ⟨⟩ tl u h tk hoff _ hP F1 N1
      clear lF lN
      rw [hcl, List.drop_length, shapes] at hP
      rw [List.nil_append] at N1
      (try dsimp only)
      k_steps
      rename News h₀ _ _ _ => lN
      exact hret true _ _ (hgo.trans hP) (by assumption) (kst_newsOf lN sub_left)
theorem shape_ct (w : World) (mean : ExcName → Option Value) (mg mb : Str → Option Value) (item : Int) (t : Nat) (ht : 1 ≤ t ∧ t ≤ 10) : ∀ d, ShapeTells w mean mg mb item t d
  | 0 => shape_zero_ct w mean mg mb item t ht
  | d + 1 => shape_succ_ct w mean mg mb item t d ht (shape_ct w mean mg mb item t ht d)
end Mine
end

section
open PySem PySem.W PyProof.Rows PySem.Calls PySem.Spec
set_option maxHeartbeats 8000000
namespace Mine
def sizeI (ns : List Int) (t lv : Int) : Int := (t - 1 + cellAt ns (8 + lv) 0).fmod (2 * t + 1)
def extraI (ns : List Int) (h lv : Int) : Int := if lv = (cellAt ns 4 0).fmod (h + 1) then [0, 1, -1, 0, 0, 0, 0, 0].getD ((cellAt ns 5 0).fmod 8).toNat 0 else 0
def moreI (ns : List Int) (h lv : Int) : Int := if lv = (cellAt ns 4 0).fmod (h + 1) then [0, 0, 0, 1, -1, 0, 0, 0].getD ((cellAt ns 5 0).fmod 8).toNat 0 else 0
def rowI (ns : List Int) (t h lv : Int) : Int := max 0 (sizeI ns t lv + extraI ns h lv)
def nkI (ns : List Int) (t h lv : Int) : Int := max 1 (sizeI ns t lv + 1 + moreI ns h lv)
def levI (ns : List Int) (t h lv : Int) : Lev := ⟨(sizeI ns t lv).toNat, (rowI ns t h lv).toNat, (nkI ns t h lv).toNat⟩
def placeN (ns : List Int) (n : Nat) : Nat := ((cellAt ns 7 0).fmod (n : Int)).toNat
def levsUp (ns : List Int) (t h : Int) : Nat → List Lev
  | 0 => []
  | i + 1 => levI ns t h (h - i) :: levsUp ns t h i
def leastI (t : Int) (root : Bool) (lv : Int) : Int := if root = true ∧ lv = 0 then 0 else t - 1
def okLv (ns : List Int) (t h : Int) (root : Bool) (lv : Int) : Bool :=
  decide (leastI t root lv ≤ sizeI ns t lv ∧ sizeI ns t lv < 2 * t) && decide (rowI ns t h lv = sizeI ns t lv) && (decide (¬ lv < h) || decide (nkI ns t h lv = sizeI ns t lv + 1))
def goodUp (ns : List Int) (t h : Int) (root : Bool) : Nat → Bool
  | 0 => true
  | i + 1 => goodUp ns t h root i && okLv ns t h root (h - i)
theorem extra_b (ns : List Int) (h lv : Int) : -1 ≤ extraI ns h lv ∧ extraI ns h lv ≤ 1 := by
  unfold extraI
  split
  · exact kmn_any (l := [0, 1, -1, 0, 0, 0, 0, 0]) (d := 0) (by decide)
  · omega
theorem more_b (ns : List Int) (h lv : Int) : -1 ≤ moreI ns h lv ∧ moreI ns h lv ≤ 1 := by
  unfold moreI
  split
  · exact kmn_any (l := [0, 0, 0, 1, -1, 0, 0, 0]) (d := 0) (by decide)
  · omega
theorem size_b (ns : List Int) {t : Int} (ht : 1 ≤ t) (lv : Int) : 0 ≤ sizeI ns t lv ∧ sizeI ns t lv ≤ 2 * t := by
  have h1 := fmod_lo (t - 1 + cellAt ns (8 + lv) 0) (n := 2 * t + 1) (by omega)
  have h2 := fmod_hi (t - 1 + cellAt ns (8 + lv) 0) (n := 2 * t + 1) (by omega)
  unfold sizeI
  omega
theorem levsUp_len (ns : List Int) (t h : Int) : ∀ i, (levsUp ns t h i).length = i
  | 0 => rfl
  | i + 1 => by rw [levsUp, List.length_cons, levsUp_len]
theorem levsUp_nk (ns : List Int) {t h : Int} (ht : 1 ≤ t) : ∀ i, ∀ x ∈ levsUp ns t h i, 1 ≤ x.nk
  | 0, _, hx => nomatch hx
  | i + 1, x, hx => by
    rw [levsUp] at hx
    rcases List.mem_cons.mp hx with rfl | hx
    · show 1 ≤ (nkI ns t h (h - i)).toNat
      unfold nkI
      omega
    · exact levsUp_nk ns ht i x hx
theorem place_lt (ns : List Int) : ∀ n, 1 ≤ n → placeN ns n < n := by
  intro n hn
  have h1 := fmod_lo (cellAt ns 7 0) (n := (n : Int)) (by omega)
  have h2 := fmod_hi (cellAt ns 7 0) (n := (n : Int)) (by omega)
  unfold placeN
  omega
theorem okS_iff (ns : List Int) {t : Nat} (ht : 1 ≤ t) (h : Int) (root r : Bool) (lv : Int) (hr : r = (root && decide (lv = 0))) :
    (okS t r (levI ns t h lv) ↔ (leastI t root lv ≤ sizeI ns t lv ∧ sizeI ns t lv < 2 * t) ∧ rowI ns t h lv = sizeI ns t lv) := by
  have hs := size_b ns (t := (t : Int)) (by omega) lv
  have hw : 0 ≤ rowI ns t h lv := by unfold rowI; omega
  unfold okS levI leastI
  dsimp only
  subst hr
  by_cases hc : root = true ∧ lv = 0
  · rw [if_pos hc]
    have e : (root && decide (lv = 0)) = true := by simp [hc.1, hc.2]
    rw [e]
    constructor
    · rintro ⟨_, b, c⟩; exact ⟨⟨by omega, by omega⟩, by omega⟩
    · rintro ⟨⟨a, b⟩, c⟩; exact ⟨(fun h => by cases h), by omega, by omega⟩
  · rw [if_neg hc]
    have e : (root && decide (lv = 0)) = false := by
      cases root with
      | false => rfl
      | true => simp at hc ⊢; exact hc
    rw [e]
    constructor
    · rintro ⟨a, b, c⟩; have := a rfl; exact ⟨⟨by omega, by omega⟩, by omega⟩
    · rintro ⟨⟨a, b⟩, c⟩; exact ⟨fun _ => by omega, by omega, by omega⟩
theorem goodC_cons {t : Nat} {r : Bool} {l : Lev} {c : List Lev} : goodC t r (l :: c) ↔ okS t r l ∧ (c = [] ∨ l.nk = l.size + 1) ∧ goodC t false c := by
  cases c with
  | nil => simp [goodC]
  | cons x c => simp [goodC]
theorem good_step (ns : List Int) {t h : Nat} (ht : 1 ≤ t) (root r : Bool) {i : Nat} (hr : r = (root && decide ((h : Int) - i = 0))) (hi : goodC t false (levsUp ns t h i) ↔ goodUp ns t h root i = true) :
    goodC t r (levsUp ns t h (i + 1)) ↔ goodUp ns t h root (i + 1) = true := by
  have hs := size_b ns (t := (t : Int)) (by omega) ((h : Int) - i)
  have hn : 1 ≤ nkI ns t h ((h : Int) - i) := by unfold nkI; omega
  rw [levsUp, goodUp, goodC_cons, hi, okS_iff ns ht h root r _ hr, Bool.and_eq_true, okLv]
  simp only [Bool.and_eq_true, Bool.or_eq_true, decide_eq_true_eq]
  have e1 : (levsUp ns t h i = []) ↔ ¬ ((h : Int) - i < h) := by
    constructor
    · intro e
      have := congrArg List.length e
      rw [levsUp_len] at this
      simp at this
      omega
    · intro e
      have e0 : i = 0 := by omega
      subst e0; rfl
  have e2 : ((levI ns t h (h - i)).nk = (levI ns t h (h - i)).size + 1) ↔ nkI ns t h (h - i) = sizeI ns t (h - i) + 1 := by
    show (nkI ns t h (h - i)).toNat = (sizeI ns t (h - i)).toNat + 1 ↔ _
    omega
  rw [e1, e2]
  constructor
  · rintro ⟨⟨a, b⟩, c, d⟩; exact ⟨d, ⟨a, b⟩, c⟩
  · rintro ⟨d, ⟨a, b⟩, c⟩; exact ⟨⟨a, b⟩, c, d⟩
theorem good_low (ns : List Int) {t h : Nat} (ht : 1 ≤ t) (root : Bool) : ∀ i, i ≤ h → (goodC t false (levsUp ns t h i) ↔ goodUp ns t h root i = true)
  | 0, _ => by simp [levsUp, goodC, goodUp]
  | i + 1, hi => good_step ns ht root false (by
      have : ¬ ((h : Int) - i = 0) := by omega
      simp [this]) (good_low ns ht root i (by omega))
theorem good_all (ns : List Int) {t h : Nat} (ht : 1 ≤ t) (root : Bool) : goodC t root (levsUp ns t h (h + 1)) ↔ goodUp ns t h root (h + 1) = true :=
  good_step ns ht root root (by simp) (good_low ns ht root h (Nat.le_refl _))
theorem nest_up0 (ns : List Int) (t : Nat) (h : Int) (pl : Nat → Nat) : nest t pl (levsUp ns t h 1) = .node (sizeI ns t (h - 0)).toNat (rowI ns t h (h - 0)).toNat [] := rfl
theorem nest_upS (ns : List Int) (t : Nat) (h : Int) (pl : Nat → Nat) : ∀ j : Nat, 0 < j → nest t pl (levsUp ns t h (j + 1)) = .node (sizeI ns t (h - j)).toNat (rowI ns t h (h - j)).toNat (((List.range (nkI ns t h (h - j)).toNat).map (leafN t)).set (pl (nkI ns t h (h - j)).toNat) (nest t pl (levsUp ns t h j)))
  | j + 1, _ => rfl
end Mine
end

section
open PySem PySem.W PyProof.Rows PySem.Calls PySem.Spec
set_option maxHeartbeats 8000000
namespace Mine
section
variable {prog : Program} {w : World} {A : Around} {E : Value → Shared → Prop} {s : Shared} {r : Addr} {a b x : Int} {t u v tx : Tok} {Q : Value → Shared → Prop}
theorem place_some (a b x : Int) : (Builtin.Range.rangePlace? a b 1 x).isSome = decide (a ≤ x ∧ x < b) := by
  unfold Builtin.Range.rangePlace?
  simp only [show ((1 : Int) > 0) = True from by simp, if_true, Int.emod_one, beq_self_eq_true, Bool.and_true]
  by_cases h : a ≤ x ∧ x < b
  · simp [h.1, h.2]
  · by_cases h1 : a ≤ x
    · have h2 : ¬ x < b := fun q => h ⟨h1, q⟩
      simp [h1, h2]
    · simp [h1]
theorem notin_range (hr : IsRange s.heap r a b 1 t u v) (h : Q (.bool (!decide (a ≤ x ∧ x < b))) s) : wpAny (model prog w) A (compareOp .NotIn (.int x tx) (.ref r)) Q E s := by
  show wpAny _ A (do return .bool (!(← contains (.ref r) (.int x tx)))) Q E s
  have hT : s.TypeIs (.ref r) "range" := ⟨_, hr, rfl⟩
  refine wpAny_bind (PySem.wpAny_contains_slot hT PySem.F.slot_range_contains ?_)
  refine wpAny_call_entry PySem.F.slot_range_contains hT PySem.F.entry_range_contains ?_ (PySem.F.args_range_contains_2 _ _)
  show wpAny _ _ (do rule "range.contains.reckoned"; let (a, b, c) ← Builtin.Range.rangeFields (.ref r); ret (.bool (Builtin.Range.rangePlace? a b c x).isSome)) _ _ s
  refine wpAny_bind (wpAny_rule ?_)
  refine wpAny_bind ?_
  unfold Builtin.Range.rangeFields
  refine wpAny_bind (wpAny_field hr rfl (x := .int a t) rfl ?_)
  refine wpAny_bind (m := asInt? _) (wpAny_of_eq (a := some a) rfl ?_)
  refine wpAny_bind (wpAny_field hr rfl (x := .int b u) rfl ?_)
  refine wpAny_bind (m := asInt? _) (wpAny_of_eq (a := some b) rfl ?_)
  refine wpAny_bind (wpAny_field hr rfl (x := .int 1 v) rfl ?_)
  refine wpAny_bind (m := asInt? _) (wpAny_of_eq (a := some 1) rfl ?_)
  refine wpAny_of_eq (a := (a, b, 1)) rfl ?_
  dsimp only
  rw [place_some]
  refine wpAny_of_eq (a := Fin.done (Flow.ret (.bool (decide (a ≤ x ∧ x < b))))) rfl ⟨_, rfl, ?_⟩
  refine wpAny_of_eq (a := decide (a ≤ x ∧ x < b)) rfl ?_
  exact wpAny_pure h
end
section
variable {prog : Program} {w : World} {A : Around} {h₀ : Heap} {L : Addr} {m : Str → Option Value} {env : Env} {elt : PySem.Expr} {x y : Str} {scope : Scope} {cl : List (Str × Addr)} {Q : Flow → Shared → Prop} {r : Addr} {a b : Int} {t u v : Tok} {n : Nat} {news : List (Addr × Obj)} {s₁ : Shared}
/-- a comprehension over a range, its elements made afresh -/
theorem comp_dat (G : Nat → Dat) (hh : A.handled = none) (F : Fr h₀ L s₁.heap m) (N : News h₀ L s₁.heap news) (hr : IsRange s₁.heap r a b 1 t u v) (hsm : Builtin.Range.small a b 1 = true) (hn : Builtin.Range.rangeSize a b 1 = ((n : Nat) : Int)) (hsz : n ≤ sizeLine)
    (turn : ∀ (i : Nat) t I oI C oC D m₂ ys tl2 h tk (E' : Value → Shared → Prop), i < n → LCg.NsObj oC m₂ → m₂ x = some (.int (a + (i : Int)) t) → Fr h₀ L h m → News h₀ L h ((I, oI) :: (C, oC) :: (D, LCg.lst ys) :: (news ++ tl2)) → ((@Ne Nat I C) ∧ (@Ne Nat I D) ∧ (@Ne Nat C D)) →
      wpAny (model prog w) A (eval elt (compEnvC scope cl C env)) (fun z s' => ∃ h' tk' tl3, s' = { s₁ with heap := h', toks := tk' } ∧ Fr h₀ L h' m ∧ News h₀ L h' (((I, oI) :: (C, oC) :: (D, LCg.lst ys) :: (news ++ tl2)) ++ tl3) ∧ (∀ q ∈ (I, oI) :: (C, oC) :: (D, LCg.lst ys) :: (news ++ tl2), ∀ p ∈ tl3, p.1 ≠ q.1) ∧ DatIn tl3 z (G i)) E' { s₁ with heap := h, toks := tk })
    (fin : ∀ ys tl2 D h tk, DatAll tl2 ys ((List.range n).map G) → (∀ q ∈ news, ∀ p ∈ tl2, p.1 ≠ q.1) → (∀ p ∈ news ++ tl2, p.1 ≠ D) → Fr h₀ L h (fun z => if z = y then some (.ref D) else m z) → News h₀ L h ((D, LCg.lst ys) :: (news ++ tl2)) → Q .next { s₁ with heap := h, toks := tk }) :
    LCg.CompSrc prog w A h₀ L m env elt x scope cl (fun s₂ => LCg.FinA h₀ L m s₂ y Q) (.ref r) s₁ := by
  refine LCg.CompSrc.range hh F N hr hsm hn hsz (fun g => ?_)
  refine comp_inv0 (fun i ys nx => ∃ tl2, nx = news ++ tl2 ∧ (∀ q ∈ news, ∀ p ∈ tl2, p.1 ≠ q.1) ∧ DatAll tl2 ys ((List.range i).map G)) ⟨[], by simp, by simp, .nil⟩ ?_ ?_
  · rintro i _ I oI C oC D m₂ ys nx h tk E' hi ⟨t', rfl⟩ ⟨tl2, rfl, off2, hys⟩ hC hx F2 N2 off ne
    refine wpAny_mono (turn i t' I oI C oC D m₂ ys tl2 h tk E' hi hC hx F2 N2 ne) (fun z s' hq => ?_) fun _ _ e => e
    obtain ⟨h', tk', tl3, rfl, F3, N3, off3, hy⟩ := hq
    refine LCg.CompEnd.intro F3 N3 (news ++ (tl2 ++ tl3)) (fun p hp => by simpa [List.append_assoc] using hp) (LCg.Off3.of fun p hp => ?_) trivial ⟨tl2 ++ tl3, rfl, fun q hq p hp => ?_, ?_⟩
    · rw [← List.append_assoc] at hp
      rcases List.mem_append.mp hp with hp | hp
      · exact off.mem p hp
      · exact ⟨off3 _ (.head _) p hp, off3 _ (.tail _ (.head _)) p hp, off3 _ (.tail _ (.tail _ (.head _))) p hp⟩
    · rcases List.mem_append.mp hp with hp | hp
      · exact off2 q hq p hp
      · exact off3 _ (.tail _ (.tail _ (.tail _ (List.mem_append_left _ hq)))) p hp
    · rw [List.range_succ, List.map_append]
      exact DatAll.append (hys.mono fun p hp => List.mem_append_left _ hp) (.cons (hy.mono fun p hp => List.mem_append_right _ hp) .nil)
  · rintro ys nx ⟨tl2, rfl, off2, hys⟩ D h tk F9 N9 off9
    exact fin ys tl2 D h tk hys off2 (off1_mem off9) F9 N9
end
section
variable {prog : Program} {w : World} {A : Around} {E : Value → Shared → Prop} {s : Shared} {h₀ : Heap} {L D : Addr} {m : Str → Option Value} {rest : List (Addr × Obj)} {vs : List Value} {n : Nat} {k : Int} {t : Tok} {v : Value}
/-- xs[k] = v, v anything -/
theorem set_head {Q : Unit → Shared → Prop} (F : Fr h₀ L s.heap m) (N : News h₀ L s.heap ((D, listOf vs.toArray n) :: rest)) (off : ∀ p ∈ rest, p.1 ≠ D) (h0 : 0 ≤ k) (h1 : k < vs.length) (hfit : k < 2 ^ 63)
    (h : ∀ h', Fr h₀ L h' m → News h₀ L h' ((D, listOf (vs.set k.toNat v).toArray n) :: rest) → Q () { s with heap := h' }) :
    wpAny (model prog w) A (setItem (.ref D) (.int k t) v) Q E s := by
  have z := N (D, listOf vs.toArray n) (.head _)
  refine ki_setAt z.1 h0 hfit (by rw [List.size_toArray]; omega) (h _ (F.change (Heap.SameBut.update ..) z.2.1 z.2.2) (ki_turn (pre := []) _ N (fun _ h => nomatch h) off ?_ ?_))
  · show vs.toArray.setIfInBounds k.toNat v = (vs.set k.toNat v).toArray
    apply Array.toList_inj.mp
    simp
  · simp
theorem all_set {nw : List (Addr × Obj)} {d : Dat} (hv : DatIn nw v d) : ∀ {vs : List Value} {ds : List Dat}, DatAll nw vs ds → ∀ i : Nat, DatAll nw (vs.set i v) (ds.set i d)
  | _, _, .nil, _ => .nil
  | _, _, .cons _ h, 0 => .cons hv h
  | _, _, .cons a h, i + 1 => .cons a (all_set hv h i)
end
end Mine
end

section
open PySem PySem.W PyProof.Rows PySem.Calls PySem.Spec
set_option maxHeartbeats 8000000
namespace Mine
section
variable {prog : Program} {w : World} {A : Around} {E : Value → Shared → Prop} {s : Shared} {env : Env} {h₀ : Heap} {x : Str} {body : List Stmt} {Q : Flow → Shared → Prop}
set_option maxHeartbeats 3200000 in
/-- a loop over a downward range, by what holds between its turns -/
theorem lp_down {σ : Type} {r : Addr} {a₀ b₀ : Int} {t₀ u₀ v₀ : Tok} {n : Nat} {m₀ : Str → Option Value} {news : List (Addr × Obj)} (Led : σ → List (Addr × Obj)) (cst : List (Addr × Obj)) (ps : σ → List (Str × Value)) (Facts : List (Addr × Obj) → σ → Prop) (stored : List Str) (P : Nat → σ → Prop) (adr : List Addr) (c₀ : σ)
    (hh : A.handled = none) (hr : IsRange s.heap r a₀ b₀ (-1) t₀ u₀ v₀) (hsmall : Builtin.Range.small a₀ b₀ (-1) = true) (hsz : Builtin.Range.rangeSize a₀ b₀ (-1) = (n : Int)) (F : Fr h₀ env.locals s.heap m₀) (N : News h₀ env.locals s.heap news) (hn : ∀ p ∈ Led c₀ ++ (cst ++ []), p ∈ news) (hadr : ∀ c, (Led c ++ cst).map (·.1) = adr) (hf : Facts (cst ++ []) c₀) (hk : ∀ p ∈ ps c₀, m₀ p.1 = some p.2) (hp : P 0 c₀)
    (turn : ∀ (c : σ) tl (i : Nat) (k : Int) t (u : Str → Option Value) h tk own, k = a₀ - (i : Int) → i < n → KdSep own tl adr → OwnOff (tl ++ own) adr → Facts (cst ++ tl) c → P i c →
      Fr h₀ env.locals h (fun y => if y = x then some (.int k t) else kstB (fun z => if stored.contains z then u z else m₀ z) (ps c) y) → News h₀ env.locals h (Led c ++ (cst ++ (tl ++ own))) →
      wpAny (model prog w) A (execs body env) (InvPostG h₀ env.locals (KdS Led cst ps Facts x stored m₀ P adr (i + 1)) own { s with heap := h, toks := tk } Q) E { s with heap := h, toks := tk })
    (done : ∀ (c : σ) tl (u : Str → Option Value) h tk, OwnOff tl adr → Facts (cst ++ tl) c → P n c → Fr h₀ env.locals h (fun y => if y = x then u y else kstB (fun z => if stored.contains z then u z else m₀ z) (ps c) y) → News h₀ env.locals h (Led c ++ (cst ++ tl)) → Q .next { s with heap := h, toks := tk }) :
    wpAny (model prog w) A (pyIter (.ref r)) (fun it s₂ => LoopAtV prog w A h₀ env x body Q E it s₂) E s := by
  refine wpAny_pyIter_range hr hsmall ?_
  have W : Walks prog w A s.heap.objs.size [s.heap.objs.size] [s.heap.objs.size] n (fun i v => i < n ∧ ∃ t, v = .int (a₀ + i * (-1)) t)
      (fun i h => IsRangeIter h s.heap.objs.size (a₀ + (i : Nat) * (-1)) ((n : Int) - (i : Nat)) (-1)) := (Walks.range hh _ a₀ (-1) n).bound
  refine kdr_loop (fun i m nx => KdS Led cst ps Facts x stored m₀ P adr i m nx) W (fun _ h => h) (fun _ h => h) ?_ ?_ ?_ ?_ (by show IsRangeIter _ _ _ _ _; rw [hsz]; simpa using Heap.get?_push_size _ rfl) (F.push _) (fun p hp => ⟨Heap.get?_push_of_some _ (N p (hn p hp)).1, (N p (hn p hp)).2⟩) ⟨c₀, [], rfl, fun _ hp => (nomatch hp), hf, hk, fun _ _ _ _ => rfl, hp⟩ ?_ ?_
  · intro i h hi b hb
    rw [List.mem_singleton.mp hb]
    exact ⟨_, hi⟩
  · intro hm
    exact absurd F.ns.lt ((List.mem_singleton.mp hm) ▸ Nat.lt_irrefl _)
  · intro b hb
    rw [List.mem_singleton.mp hb]
    exact next_is_new F
  · intro p hp hI
    exact absurd (Heap.lt_size (N p (hn p hp)).1) ((List.mem_singleton.mp hI) ▸ Nat.lt_irrefl _)
  · rintro i v m₁ nx h tk own hi ⟨_, t, rfl⟩ hoff ⟨c, tl, rfl, ht, hf', h1, h2, hp'⟩ F₁ N₁
    have e1 : a₀ + (i : Int) * (-1) = a₀ - (i : Int) := by omega
    rw [e1] at F₁
    obtain ⟨o1, o2⟩ := kd_split (hadr c) hoff
    rw [List.append_assoc, List.append_assoc] at N₁
    exact turn c tl i _ t m₁ h tk own rfl hi ⟨o1, o2, ht⟩ (kd_off o1 ht) hf' hp' (kst_fr h1 h2 F₁) N₁
  · rintro m₁ nx h tk ⟨c, tl, rfl, ht, hf', h1, h2, hp'⟩ F₁ N₁
    exact done c tl m₁ h tk ht hf' hp' (kst_frOut h1 h2 F₁) N₁
/-- the end of a statement that sets x alone -/
def CutEnd (h₀ : Heap) (L : Addr) (m : Str → Option Value) (news : List (Addr × Obj)) (x : Str) (V : Value → Prop) (s : Shared) (f : Flow) (s' : Shared) : Prop :=
  f = .next ∧ ∃ h tk v, s' = { s with heap := h, toks := tk } ∧ V v ∧ Fr h₀ L h (fun y => if y = x then some v else m y) ∧ News h₀ L h news
theorem cut_if {X : Sem Flow} {L : Addr} {m : Str → Option Value} {news : List (Addr × Obj)} (x : Str) (V : Value → Prop) (_ : Fr h₀ L s.heap m) (_ : News h₀ L s.heap news)
    (h1 : wpAny (model prog w) A X (CutEnd h₀ L m news x V s) E s)
    (h2 : ∀ h tk v, V v → Fr h₀ L h (fun y => if y = x then some v else m y) → News h₀ L h news → Q .next { s with heap := h, toks := tk }) : wpAny (model prog w) A X Q E s := by
  refine wpAny_mono h1 (fun f s' hq => ?_) fun _ _ e => e
  obtain ⟨rfl, h, tk, v, rfl, hv, F, N⟩ := hq
  exact h2 h tk v hv F N
theorem cut_end {L : Addr} {m m' : Str → Option Value} {news news' : List (Addr × Obj)} {x : Str} {V : Value → Prop} {h' : Heap} {tk : Nat} (v : Value) (F : Fr h₀ L h' m') (N : News h₀ L h' news') (hs : ∀ p ∈ news, p ∈ news') (hm : ∀ y, y ≠ x → m' y = m y) (hx : m' x = some v) (hv : V v) :
    CutEnd h₀ L m news x V s .next { s with heap := h', toks := tk } := by
  refine ⟨rfl, h', tk, v, rfl, hv, ?_, fun p hp => N p (hs p hp)⟩
  have e : m' = fun y => if y = x then some v else m y := by
    funext y
    by_cases hy : y = x
    · rw [if_pos hy, hy, hx]
    · rw [if_neg hy, hm y hy]
  rw [← e]
  exact F
def CutEnd2 (h₀ : Heap) (L : Addr) (m : Str → Option Value) (news : List (Addr × Obj)) (x z : Str) (V : Value → Value → Prop) (s : Shared) (f : Flow) (s' : Shared) : Prop :=
  f = .next ∧ ∃ h tk v v2, s' = { s with heap := h, toks := tk } ∧ V v v2 ∧ Fr h₀ L h (fun y => if y = x then some v else if y = z then some v2 else m y) ∧ News h₀ L h news
theorem cut_if2 {X : Sem Flow} {L : Addr} {m : Str → Option Value} {news : List (Addr × Obj)} (x z : Str) (V : Value → Value → Prop) (_ : Fr h₀ L s.heap m) (_ : News h₀ L s.heap news)
    (h1 : wpAny (model prog w) A X (CutEnd2 h₀ L m news x z V s) E s)
    (h2 : ∀ h tk v v2, V v v2 → Fr h₀ L h (fun y => if y = x then some v else if y = z then some v2 else m y) → News h₀ L h news → Q .next { s with heap := h, toks := tk }) : wpAny (model prog w) A X Q E s := by
  refine wpAny_mono h1 (fun f s' hq => ?_) fun _ _ e => e
  obtain ⟨rfl, h, tk, v, v2, rfl, hv, F, N⟩ := hq
  exact h2 h tk v v2 hv F N
theorem cut_end2 {L : Addr} {m m' : Str → Option Value} {news news' : List (Addr × Obj)} {x z : Str} {V : Value → Value → Prop} {h' : Heap} {tk : Nat} (v v2 : Value) (F : Fr h₀ L h' m') (N : News h₀ L h' news') (hs : ∀ p ∈ news, p ∈ news') (hm : ∀ y, y ≠ x → y ≠ z → m' y = m y) (hx : m' x = some v) (hz : m' z = some v2) (hv : V v v2) :
    CutEnd2 h₀ L m news x z V s .next { s with heap := h', toks := tk } := by
  refine ⟨rfl, h', tk, v, v2, rfl, hv, ?_, fun p hp => N p (hs p hp)⟩
  have e : m' = fun y => if y = x then some v else if y = z then some v2 else m y := by
    funext y
    by_cases hy : y = x
    · rw [if_pos hy, hy, hx]
    · by_cases hy2 : y = z
      · rw [if_neg hy, if_pos hy2, hy2, hz]
      · rw [if_neg hy, if_neg hy2, hm y hy hy2]
  rw [← e]
  exact F
end
theorem base_lt {L x : Addr} {oI oc2 : Obj} {rest : List (Addr × Obj)} (h : L + 1 + 1 < x ∧ L + 1 < x ∧ AllLt x rest) : ∀ q ∈ (L + 1 + 1, oI) :: (L + 1, oc2) :: rest, @LT.lt Nat _ q.1 x := by
  intro q hq
  rcases List.mem_cons.mp hq with rfl | hq
  · exact h.1
  · rcases List.mem_cons.mp hq with rfl | hq
    · exact h.2.1
    · exact ktn_ltOf h.2.2 q hq
section
variable {σ τ : Type} {cst : List (Addr × Obj)} {ps : σ → List (Str × Value)} {G : List (Addr × Obj) → σ → Prop} {x : Str} {stored : List Str} {m₀ : Str → Option Value} {P : τ → σ → Prop} {adr : List Addr} {pr : τ}
  {tl own : List (Addr × Obj)} {h₀ h' : Heap} {L : Addr} {m' : Str → Option Value} {s₁ : Shared} {tk : Nat}
theorem ret_endR (c : σ) (pre tl3 : List (Addr × Obj)) (h0 : KdSep own tl adr) (F : Fr h₀ L h' m') (N : News h₀ L h' (pre ++ ((cst ++ (tl ++ own)) ++ tl3))) (hadr : cst.map (·.1) = adr)
    (hpre : ∀ q ∈ cst ++ (tl ++ own), ∀ p ∈ pre, p.1 ≠ q.1) (off3 : ∀ q ∈ cst ++ (tl ++ own), ∀ p ∈ tl3, p.1 ≠ q.1) (hk : ∀ p ∈ ps c, m' p.1 = some p.2) (hr : ∀ z, z ≠ x → (∀ p ∈ ps c, z ≠ p.1) → stored.contains z = false → m' z = m₀ z) (hf : G ((pre ++ tl3) ++ tl) c) (hp : P pr c) :
    InvEndG h₀ L (KdS (fun _ => []) cst ps (fun nx c => ∃ tl, nx = cst ++ tl ∧ G tl c) x stored m₀ P adr pr) own s₁ { s₁ with heap := h', toks := tk } := by
  refine ret_end c (tl2 := pre ++ tl3) h0 F N (fun p hp => List.mem_append_right _ (List.mem_append_left _ hp)) (fun p hp => ?_) hadr (fun q hq p hp => ?_) hk hr hf hp
  · rcases List.mem_append.mp hp with hp | hp
    · exact List.mem_append_left _ hp
    · exact List.mem_append_right _ (List.mem_append_right _ hp)
  · rcases List.mem_append.mp hp with hp | hp
    · exact hpre q hq p hp
    · exact off3 q hq p hp
end
theorem holdQ {α : Type} {prog : Program} {w : World} {A : Around} {E : Value → Shared → Prop} {s : Shared} {Q : α → Shared → Prop} {X : Sem α} (h : wpAny (model prog w) A X (fun v s => Hold (Q v s)) E s) : wpAny (model prog w) A X Q E s := h
theorem holdIf {prog : Program} {w : World} {A : Around} {E : Value → Shared → Prop} {s : Shared} {Q : Flow → Shared → Prop} {st : Stmt} {sc : Scope} {L f : Addr} {v : Value}
    (h : Hold (wpAny (model prog w) A (exec st (envOfC (Str.ofString "_law_nest") sc L f v)) Q E s)) : wpAny (model prog w) A (exec st (envOfC (Str.ofString "_law_nest") sc L f v)) Q E s := h
local macro_rules | `(tactic| walk_at "exec If") => `(tactic| with_reducible refine holdIf ?_)
local macro_rules | `(tactic| k_all) => `(tactic| assumption)
local macro_rules | `(tactic| walk_at "call builtin:len") => `(tactic| ((with_reducible show wpAny _ _ (call (Value.builtin "len") [Value.ref _]) _ _ _); k_dflt (refine kst_len (by k_asm) (by k_mem) (by first | rfl | assumption) (by omega) ?_)))
local macro_rules | `(tactic| ktr_enter) => `(tactic| (refine' code_defC ?k1 ?k2 ?k3 ?k4 ?k5 ?kA ?kF ?kK ?k6 ?k7 ?k8 ?k9 ?kB ?kD ?_ ?c2 ?c3 ?c4; (case kA => exact rfl); (case kF => exact rfl); (case kK => assumption); (case k1 => k_asm); (case k2 => k_asm); (case k3 => k_asm); (case k4 => k_asm); (case k5 => k_asm); (case k6 => k_is); (case k7 => k_is); (case k8 => ktr_room); (case k9 => exact BindsTo.of_eq rfl); (case kB => exact rfl); (case kD => decide +kernel); (case c2 => exact rfl); (case c3 => exact rfl); (case c4 => exact rfl); k_whole; intro g' L' h' tk' cells' FG' F' N' Y' B' X' T' l1; k_cells Y'; (try simp only [List.cons_append, List.nil_append] at N'); (try dsimp only); (try k_lift B'); (try k_fold)))
local macro_rules | `(tactic| walk_at "pyIter ref") => `(tactic| refine hold ?_)
local macro_rules | `(tactic| walk_at "compareOp NotIn int ref") => `(tactic| refine hold ?_)
local macro_rules | `(tactic| walk_at "call ref") => `(tactic| ((with_reducible show wpAny _ _ (call (Value.ref 48) _) _ _ _); refine hold ?_))
local macro_rules | `(tactic| walk_at "setItem ref int") => `(tactic| refine hold ?_)
local macro_rules | `(tactic| walk_at "binaryOp Mult ref int") => `(tactic| refine hold ?_)
local macro_rules | `(tactic| walk_at "exec Assign cons ListComp") => `(tactic| refine hold ?_)
local macro_rules | `(tactic| walk_at "exec For Name Call cons nil") => `(tactic| ((rename Fr _ _ _ _ => lF'); (with_unfolding_all refine' For_invVF lF' ?k1 ?k2 ?_; (case k1 => exact rfl); (case k2 => exact rfl))))
theorem nest_ct (w : World) (mean : ExcName → Option Value) (mg mb : Str → Option Value) :
    Says (δ := List Int × Nat × Nat × Bool) PySem.Challenge.rw_k16_0019.row.prog w (hd.heap_39 w.params) hd.view_39 (looseW hd.view_39 []) mean mg mb 10 53
      (fun base _ vs d => ∃ l ws t1 t2, vs = [.ref l, .int (d.2.1 : Int) t1, .bool d.2.2.2, .int (d.2.2.1 : Int) t2] ∧ base.IsList l (List.toArray ws) ∧ IntsAre ws d.1 ∧ d.1.length ≤ 63 ∧ 2 ≤ d.2.1 ∧ d.2.1 ≤ 4 ∧ d.2.2.1 ≤ 2)
      (fun _ tl r d => ∃ ra rn v, r = .ref ra ∧ (ra, ({ cls := .type "tuple", data := .seq #[v, .bool (goodUp d.1 d.2.1 d.2.2.1 d.2.2.2 (d.2.2.1 + 1))] rn } : Obj)) ∈ tl ∧ DatIn tl v (datN (cellAt d.1 6 0) (nest d.2.1 (placeN d.1) (levsUp d.1 d.2.1 d.2.2.1 (d.2.2.1 + 1))))) := by
  k_fill
  w_top off
  unfold Says
  intro dp un gd cn cs a ccd cl outer A₀ base h₀ L m news nw s vs d Q E B F X N T hk hsub hPre hd hu hret
  obtain ⟨l, ws, t1, t2, rfl, hl, hI, hns, ht1, ht2, hh2⟩ := hPre
  obtain ⟨ns, tN, hN, root⟩ := d
  dsimp only at *
  refine wpAny_call ?_
  k_dflt ktr_enter
  rename News _ _ _ _ => lN
  rename_i g1 L1 h1 tk1 FG1 F1 B1 X1 T1 hlt oc1 oc2 hcell1 hcell2
  replace hcell1 : oc1.data = .cell none := hcell1
  replace hcell2 : oc2.data = .cell (some (.int (tN : Int) t1)) := hcell2
  have hne1 : ∀ p ∈ news, @Ne Nat p.1 (L1 + 1 + 1) := fun p hp => by have := hlt p hp; exact Nat.ne_of_lt (Nat.lt_succ_of_lt (Nat.lt_succ_of_lt this))
  k_steps
  unfold Hold
  rename_i tkI _ _ _ oI hoI _ _ _ F0 N0 hp tkp tr ur vr hR F2 N2 _
  clear F0 N0
  replace hoI : oI.data = .cell (some (.int (cellAt ns 6 0) tkI)) := hoI
  refine lp_down (σ := Value × Bool × Nat) (n := hN + 1) (fun _ => []) ((L1 + 1 + 1, oI) :: (L1 + 1, oc2) :: news) (fun c => [(Str.ofString "node", c.1), (Str.ofString "good", .bool c.2.1)])
    (fun nx c => ∃ tl, nx = ((L1 + 1 + 1, oI) :: (L1 + 1, oc2) :: news) ++ tl ∧ (c.2.2 = 0 ∧ c.1 = .none ∨ 0 < c.2.2 ∧ DatIn tl c.1 (datN (cellAt ns 6 0) (nest tN (placeN ns) (levsUp ns tN hN c.2.2)))))
    [Str.ofString "size", Str.ofString "least", Str.ofString "extra", Str.ofString "more", Str.ofString "row", Str.ofString "kids"]
    (fun i c => c.2.2 = i ∧ c.2.1 = goodUp ns tN hN root i) (((L1 + 1 + 1, oI) :: (L1 + 1, oc2) :: news).map (·.1)) (Value.none, true, 0)
    (by rfl) hR ?_ ?_ F2 N2 (fun p hp => by simpa using hp) (fun _ => rfl) ⟨[], rfl, .inl ⟨rfl, rfl⟩⟩ (by kst_all) ⟨rfl, rfl⟩ ?_ ?_
  · exact small_down (by omega) (by omega) (by omega) (by omega)
  · rw [rangeSize_downNat]; omega
  · rintro ⟨v, g, j⟩ tl i k t0 u h tk own ek hi hsep hoff ⟨tl', etl, hf⟩ ⟨hj, hg⟩ F1 N1
    have etl' : tl = tl' := List.append_cancel_left etl
    subst etl'
    clear etl
    dsimp only at hj hg hf
    subst hj
    subst hg
    clear F2 N2
    have hk0 : 0 ≤ k := by omega
    have hk2 : k ≤ 2 := by omega
    rw [List.nil_append] at N1
    simp only [List.cons_append] at N1
    dsimp only
    k_steps
    unfold Hold
    generalize hS : ((tN : Int) - 1 + cellAt ns (8 + k) 0).fmod (2 * (tN : Int) + 1) = S at *
    have hSz : sizeI ns tN k = S := hS
    have hSb : 0 ≤ S ∧ S ≤ 2 * (tN : Int) := hSz ▸ size_b ns (t := (tN : Int)) (by omega) k
    rename Fr g1 _ _ _ => lF
    rename News g1 _ _ _ => lN
    refine cut_if (Str.ofString "least") (fun v => ∃ t, v = .int (leastI tN root k) t) lF lN ?_ ?_
    · refine wpAny_If ?_
      k_steps
      all_goals rename Fr g1 _ _ _ => lF2
      all_goals rename News g1 _ _ _ => lN2
      all_goals refine cut_end _ lF2 lN2 (fun p hp => hp) (fun y hy => by simp only [hy, if_false]) rfl ⟨_, congrArg (Value.int · _) ?_⟩
      all_goals unfold leastI
      · exact (if_pos ⟨by assumption, by assumption⟩).symm
      · exact (if_neg (fun h => absurd h.2 (by assumption))).symm
      · exact (if_neg (fun h => by first | exact absurd h.1 (by assumption) | (have q : root = false := by assumption); rw [q] at h; cases h.1)).symm
    intro h7 tk7 v7 hv7 F7 N7
    obtain ⟨t7, rfl⟩ := hv7
    clear lF lN
    dsimp only
    k_steps
    unfold Hold
    refine cut_if (Str.ofString "good") (fun v => v = .bool (goodUp ns tN hN root j && decide (leastI tN root k ≤ S ∧ S < 2 * tN))) F7 N7 ?_ ?_
    · refine wpAny_If ?_
      k_steps
      unfold Hold
      rename IsRange _ _ _ _ _ _ _ _ => lR
      refine notin_range lR ?_
      by_cases hin : leastI tN root k ≤ S ∧ S < 2 * tN
      · rw [decide_eq_true hin]
        (try dsimp only [Bool.not_true])
        k_steps
        rename Fr g1 _ _ _ => lF2
        rename News g1 _ _ _ => lN2
        refine cut_end _ lF2 lN2 (fun p hp => hp) (fun y hy => rfl) rfl ?_
        rw [Bool.and_true]
      · rw [decide_eq_false hin]
        (try dsimp only [Bool.not_false])
        k_steps
        rename Fr g1 _ _ _ => lF2
        rename News g1 _ _ _ => lN2
        refine cut_end _ lF2 lN2 (fun p hp => hp) (fun y hy => by simp only [hy, if_false]) rfl ?_
        rw [Bool.and_false]
    intro h8 tk8 v8 hv8 F8 N8
    subst hv8
    clear F7 N7
    dsimp only
    k_steps
    unfold Hold
    rename Fr g1 _ _ _ => lF
    rename News g1 _ _ _ => lN
    refine cut_if2 (Str.ofString "extra") (Str.ofString "more") (fun v v2 => ∃ t t', v = .int (extraI ns hN k) t ∧ v2 = .int (moreI ns hN k) t') lF lN ?_ ?_
    · refine wpAny_If ?_
      k_steps
      all_goals rename Fr g1 _ _ _ => lF2
      all_goals rename News g1 _ _ _ => lN2
      all_goals refine cut_end2 _ _ lF2 lN2 (fun p hp => by repeat (first | exact hp | apply List.mem_cons_of_mem)) (fun y hy hz => by simp only [hy, hz, if_false]) rfl rfl ⟨_, _, congrArg (Value.int · _) ?_, congrArg (Value.int · _) ?_⟩
      · exact (if_pos (by assumption)).symm
      · exact (if_pos (by assumption)).symm
      · exact (if_neg (by assumption)).symm
      · exact (if_neg (by assumption)).symm
    intro h9 tk9 v9 w9 hv9 F9 N9
    obtain ⟨t9, u9, rfl, rfl⟩ := hv9
    clear lF lN
    dsimp only
    k_steps
    unfold Hold
    rename _ < _ ∧ _ < _ ∧ AllLt _ _ => hl1
    have hbase := base_lt (oI := oI) (oc2 := oc2) hl1
    have hex := extra_b ns hN k
    have hmo := more_b ns hN k
    have erow : (if S + extraI ns hN k > 0 then S + extraI ns hN k else 0) = rowI ns tN hN k := by
      unfold rowI
      rw [hSz]
      split <;> omega
    rw [erow]
    have hrow0 : 0 ≤ rowI ns tN hN k := by unfold rowI; omega
    have hrow1 : rowI ns tN hN k ≤ 20 := by unfold rowI; rw [hSz]; omega
    refine rep_data (by k_asm) (by k_asm) (.head _) hrow0 (by omega) ?_
    intro D1 g2 G2 N2 l2
    have hD1 : @LT.lt Nat _ _ D1 := l2 _ (.head _)
    dsimp only at hD1
    dsimp only
    generalize hrv : List.replicate (rowI ns tN hN k).toNat (Value.int (cellAt ns 6 0) tkI) = rv at N2
    have hrl : rv.length = (rowI ns tN hN k).toNat := by rw [← hrv, List.length_replicate]
    have hrl2 : rv.length ≤ 50 := by omega
    k_steps
    unfold Hold
    rename Fr g1 _ _ _ => lF
    rename News g1 _ _ _ => lN
    refine cut_if (Str.ofString "good") (fun v => v = .bool ((goodUp ns tN hN root j && decide (leastI tN root k ≤ S ∧ S < 2 * tN)) && decide (rowI ns tN hN k = S))) lF lN ?_ ?_
    · refine wpAny_If ?_
      k_steps
      all_goals rename Fr g1 _ _ _ => lF2
      all_goals rename News g1 _ _ _ => lN2
      · refine cut_end _ lF2 lN2 (fun p hp => hp) (fun y hy => by simp only [hy, if_false]) rfl ?_
        have e9 : ¬ rowI ns tN hN k = S := by omega
        rw [decide_eq_false e9, Bool.and_false]
      · refine cut_end _ lF2 lN2 (fun p hp => hp) (fun y hy => rfl) rfl ?_
        have e9 : rowI ns tN hN k = S := by omega
        rw [decide_eq_true e9, Bool.and_true]
    intro h10 tk10 v10 hv10 F10 N10
    subst hv10
    clear lF lN
    dsimp only
    k_steps
    unfold Hold
    rename _ < _ ∧ _ < _ ∧ _ < _ ∧ _ < _ ∧ AllLt _ _ => hla
    have ela : @LT.lt Nat _ D1 _ := hla.1
    have ek' : (hN : Int) - (j : Int) = k := by omega
    rcases hf with ⟨hj0, hv0⟩ | ⟨hj0, hD⟩
    · refine wpAny_If ?_
      k_steps
      unfold Hold
      refine rep_data (by k_asm) (by k_asm) (.head _) hSb.1 (by omega) ?_
      intro D2 g3 G3 N3 l3
      dsimp only
      k_steps
      rename Fr g1 _ _ _ => lF
      rename News g1 _ _ _ => lN
      rename_i lit2 _ hl2 T _ hT _
      have e1 : @LT.lt Nat _ D2 T := hT.1
      have e2 : @LT.lt Nat _ lit2 D2 := l3 _ (.head _)
      have e3 : @LT.lt Nat _ D1 lit2 := hl2.2.1
      subst hj0
      refine ret_endR (Value.ref T, ((goodUp ns tN hN root 0 && decide (leastI tN root k ≤ S ∧ S < 2 * tN)) && decide (rowI ns tN hN k = S)), 0 + 1) [_, _, _, _, _, _] [] hsep lF (by rw [List.append_nil]; exact lN) rfl (fun q hq p hp => ?_) (fun _ _ _ h => nomatch h) (by kst_all) (by
          intro z h1 h2 h3
          have h3' := h3
          simp only [List.forall_mem_cons, List.not_mem_nil, false_implies, implies_true, and_true, ne_eq] at h2
          obtain ⟨h2a, h2b⟩ := h2
          simp only [List.contains_cons, List.contains_nil, Bool.or_false, Bool.or_eq_false_iff, beq_eq_false_iff_ne, ne_eq] at h3'
          obtain ⟨a1, a2, a3, a4, a5, a6⟩ := h3'
          simp only [kstB, h1, h2a, h2b, a1, a2, a3, a4, a5, a6, h3, if_false, Bool.false_eq_true]) (.inr ⟨Nat.succ_pos _, ?_⟩) ⟨rfl, ?_⟩
      · have hq' := hbase q hq
        simp only [List.mem_cons, List.not_mem_nil, or_false] at hp
        refine @Nat.ne_of_gt _ _ ?_
        rcases hp with rfl | rfl | rfl | rfl | rfl | rfl <;> dsimp only <;> omega
      · rw [nest_up0, show (hN : Int) - 0 = k from by omega, hSz, datN, datNs]
        exact .tuple (.head _) (.cons (.list (.tail _ (.head _)) (rep_all _)) (.cons (.list (.tail _ (.tail _ (.tail _ (.tail _ (.head _))))) (hrv ▸ rep_all _)) (.cons (.list (.tail _ (.tail _ (.tail _ (.head _)))) .nil) .nil)))
      · show _ = (goodUp ns tN hN root 0 && okLv ns tN hN root ((hN : Int) - ((0 : Nat) : Int)))
        rw [ek', okLv, hSz, decide_eq_true (show ¬ k < (hN : Int) from by omega), Bool.true_or, Bool.and_true, Bool.and_assoc]
    · refine wpAny_If ?_
      k_steps
      unfold Hold
      refine LCg.Assign_ListComp_U (F₀ := by k_asm) (by rfl) (by with_unfolding_all rfl) (by with_unfolding_all rfl) (by decide) (by rfl) (by decide) (by rfl) (by rfl) (by rfl) ?_
      refine holdQ ?_
      k_steps
      unfold Hold
      have enk : (if S + 1 + moreI ns hN k > 1 then S + 1 + moreI ns hN k else 1) = nkI ns tN hN k := by
        unfold nkI
        rw [hSz]
        split <;> omega
      have hnk0 : 1 ≤ nkI ns tN hN k := by unfold nkI; omega
      have hnk1 : nkI ns tN hN k ≤ 20 := by unfold nkI; rw [hSz]; omega
      rename IsRange _ _ _ _ _ _ _ _ => lR
      refine comp_dat (n := (nkI ns tN hN k).toNat) (fun i => datN (cellAt ns 6 0) (leafN tN i)) (by rfl) (by k_asm) (by k_asm) lR ?_ ?_ ?_ ?_ ?_
      · rw [enk]; exact small_one (by omega) (by omega) (by omega) (by omega)
      · rw [enk, rangeSize_nat, Int.sub_zero]
      · have e7 : (nkI ns tN hN k).toNat ≤ 20 := by omega
        exact Nat.le_trans e7 (by decide)
      · intro i t5 I oI5 C oC D m₂ ys tl2 h5 tk5 E5 hi5 hC hx F5 N5 ne5
        simp only [List.cons_append] at N5
        k_steps
        unfold Hold
        have e5 : (tN : Int) - 1 + ((0 : Int) + (i : Int)).fmod ((tN : Int) + 1) = ((tN - 1 + i % (tN + 1) : Nat) : Int) := by
          rw [Int.zero_add, Int.fmod_eq_emod_of_nonneg _ (by omega), Int.natCast_add, Int.natCast_emod, Int.natCast_sub (by omega)]
          rfl
        have e6 : i % (tN + 1) < tN + 1 := Nat.mod_lt _ (by omega)
        rw [e5]
        refine' says_use (leaf_ct w _ mg mb) (tN - 1 + i % (tN + 1), cellAt ns 6 0) [] ?k1 ?k2 ?k3 ?k4 ?k5 ?k6 ?k7 ?k8 ?k9 ?k10 ?_
        (case k1 => k_asm)
        (case k2 => k_asm)
        (case k3 => k_asm)
        (case k4 => k_asm)
        (case k5 => k_asm)
        (case k6 => exact rfl)
        (case k7 => exact fun _ h => nomatch h)
        (case k8 => exact ⟨_, _, rfl, by show _ ≤ 20; omega⟩)
        (case k9 => (simp only [depth_deeper]; omega))
        (case k10 => (simp only [units_deeper]; omega))
        intro r tl3 h6 tk6 F6 N6 off6 hO
        exact ⟨h6, tk6, tl3, rfl, F6, N6, off6, hO⟩
      · intro ys tl2 D h5 tk5 hys off2 offD F5 N5
        dsimp only
        replace N5 : News _ _ _ ((D, listOf ys.toArray ys.length) :: (_ ++ tl2)) := N5
        have hyl := hys.length
        rw [List.length_map, List.length_range] at hyl
        have hyl1 : 1 ≤ ys.length := by omega
        have hyl2 : ys.length ≤ 50 := by omega
        have f1 := fmod_lo (cellAt ns 7 0) (n := (ys.length : Int)) (by omega)
        have f2 := fmod_hi (cellAt ns 7 0) (n := (ys.length : Int)) (by omega)
        simp only [List.cons_append] at N5
        k_steps
        unfold Hold
        refine set_head (by k_asm) (by k_asm) offD (by omega) (by omega) (by omega) ?_
        intro h6 F6 N6
        simp only [List.cons_append] at N6
        generalize hzs : ys.set ((cellAt ns 7 0).fmod (ys.length : Int)).toNat v = zs at N6
        have hzl : zs.length = ys.length := by rw [← hzs, List.length_set]
        have hzl2 : zs.length ≤ 50 := by omega
        dsimp only
        k_steps
        unfold Hold
        rename Fr g1 _ _ _ => lF
        rename News g1 _ _ _ => lN
        refine cut_if (Str.ofString "good") (fun v => v = .bool (((goodUp ns tN hN root j && decide (leastI tN root k ≤ S ∧ S < 2 * tN)) && decide (rowI ns tN hN k = S)) && decide (nkI ns tN hN k = S + 1))) lF lN ?_ ?_
        · refine wpAny_If ?_
          k_steps
          all_goals rename Fr g1 _ _ _ => lF2
          all_goals rename News g1 _ _ _ => lN2
          · refine cut_end _ lF2 lN2 (fun p hp => hp) (fun y hy => by simp only [hy, if_false]) rfl ?_
            have e9 : ¬ nkI ns tN hN k = S + 1 := by omega
            rw [decide_eq_false e9, Bool.and_false]
          · refine cut_end _ lF2 lN2 (fun p hp => hp) (fun y hy => rfl) rfl ?_
            have e9 : nkI ns tN hN k = S + 1 := by omega
            rw [decide_eq_true e9, Bool.and_true]
        intro h11 tk11 v11 hv11 F11 N11
        subst hv11
        clear lF lN
        dsimp only
        k_steps
        unfold Hold
        refine rep_data (by k_asm) (by k_asm) (.head _) hSb.1 (by omega) ?_
        intro D2 g3 G3 N3 l3
        dsimp only
        k_steps
        rename Fr g1 _ _ _ => lF
        rename News g1 _ _ _ => lN
        rename_i lit2 _ hl2 T _ hT _
        have e1 : @LT.lt Nat _ D2 T := hT.1
        have e2 : @LT.lt Nat _ lit2 D2 := l3 _ (.head _)
        have e3 : @LT.lt Nat _ D1 lit2 := hl2.2.2.1
        refine ret_endR (Value.ref T, (((goodUp ns tN hN root j && decide (leastI tN root k ≤ S ∧ S < 2 * tN)) && decide (rowI ns tN hN k = S)) && decide (nkI ns tN hN k = S + 1)), j + 1) [_, _, _, _, _, _, _] tl2 hsep lF lN rfl (fun q hq p hp => ?_) (fun q hq p hp => off2 q (.tail _ (.tail _ (.tail _ hq))) p hp) (by kst_all) (by
          intro z h1 h2 h3
          have h3' := h3
          simp only [List.forall_mem_cons, List.not_mem_nil, false_implies, implies_true, and_true, ne_eq] at h2
          obtain ⟨h2a, h2b⟩ := h2
          simp only [List.contains_cons, List.contains_nil, Bool.or_false, Bool.or_eq_false_iff, beq_eq_false_iff_ne, ne_eq] at h3'
          obtain ⟨a1, a2, a3, a4, a5, a6⟩ := h3'
          simp only [kstB, h1, h2a, h2b, a1, a2, a3, a4, a5, a6, h3, if_false, Bool.false_eq_true]) (.inr ⟨Nat.succ_pos _, ?_⟩) ⟨rfl, ?_⟩
        · have hq' := hbase q hq
          have hD' := offD q (List.mem_append_left _ (.tail _ (.tail _ (.tail _ hq))))
          simp only [List.mem_cons, List.not_mem_nil, or_false] at hp
          rcases hp with rfl | rfl | rfl | rfl | rfl | rfl | rfl
          · refine @Nat.ne_of_gt _ _ ?_; dsimp only; omega
          · refine @Nat.ne_of_gt _ _ ?_; dsimp only; omega
          · refine @Nat.ne_of_gt _ _ ?_; dsimp only; omega
          · exact Ne.symm hD'
          · refine @Nat.ne_of_gt _ _ ?_; dsimp only; omega
          · refine @Nat.ne_of_gt _ _ ?_; dsimp only; omega
          · refine @Nat.ne_of_gt _ _ ?_; dsimp only; omega
        · rw [nest_upS _ _ _ _ j hj0, ek', hSz, datN, datNs_map, List.map_set, List.map_map]
          refine .tuple (.head _) (.cons (.list (.tail _ (.head _)) (rep_all _)) (.cons (.list (.tail _ (.tail _ (.tail _ (.tail _ (.tail _ (.head _)))))) (hrv ▸ rep_all _)) (.cons (.list (.tail _ (.tail _ (.tail _ (.head _)))) ?_) .nil)))
          have epl : placeN ns (nkI ns tN hN k).toNat = ((cellAt ns 7 0).fmod (ys.length : Int)).toNat := by rw [hyl]; rfl
          rw [epl, ← hzs]
          exact all_set (hD.mono fun p hp => List.mem_append_right _ hp) (hys.mono fun p hp => List.mem_append_left _ (List.mem_append_right _ hp)) _
        · show _ = (goodUp ns tN hN root j && okLv ns tN hN root ((hN : Int) - (j : Int)))
          rw [ek', okLv, hSz, decide_eq_false (show ¬ ¬ k < (hN : Int) from by omega), Bool.false_or]
          simp only [Bool.and_assoc]
  · rintro ⟨v, g, j⟩ tl u h tk hoff ⟨tl', etl, hf⟩ ⟨hj, hg⟩ F1 N1
    have etl' : tl = tl' := List.append_cancel_left etl
    subst etl'
    clear etl
    dsimp only at hj hg hf
    subst hj
    subst hg
    clear F2 N2
    rw [List.nil_append] at N1
    simp only [List.cons_append] at N1
    dsimp only
    obtain ⟨h0, _⟩ | ⟨_, hD⟩ := hf
    · omega
    k_steps
    rename News h₀ _ _ _ => lN
    rename _ < _ ∧ _ < _ ∧ AllLt _ _ => hT
    refine hret _ (_ :: tl) _ _ (by assumption) (kst_newsOf lN fun p hp => ?_) (off_cons (fun q hq => ktn_ltOf hT.2.2 q (List.mem_append_left _ hq)) (fun q hq p hp => hoff p hp q.1 (.tail _ (.tail _ (List.mem_map.mpr ⟨q, hq, rfl⟩))))) ⟨_, 0, _, rfl, .head _, hD.mono fun p hp => .tail _ hp⟩
    rcases List.mem_cons.mp (pull1 p hp) with rfl | hp
    · exact .head _
    · exact .tail _ (.tail _ (.tail _ hp))
end Mine
end

section
open PySem PySem.W PyProof.Rows PySem.Calls PySem.Spec
set_option maxHeartbeats 8000000
namespace Mine
theorem okNs_of : ∀ {ks : List Nest}, (∀ k ∈ ks, okN k = true) → okNs ks = true
  | [], _ => by simp [okNs]
  | k :: ks, h => by
    rw [okNs, Bool.and_eq_true]
    exact ⟨h k (.head _), okNs_of fun x hx => h x (.tail _ hx)⟩
theorem okN_leaf {t : Nat} (ht : t ≤ 10) (i : Nat) : okN (leafN t i) = true := by
  have h := Nat.mod_lt i (show t + 1 > 0 by omega)
  unfold leafN
  simp only [okN, okNs, Bool.and_true, Bool.and_eq_true, decide_eq_true_eq, List.length_nil]
  omega
theorem kids_mem {t n i : Nat} {x k : Nest} (h : k ∈ ((List.range n).map (leafN t)).set i x) : k = x ∨ ∃ j, k = leafN t j := by
  rcases List.mem_or_eq_of_mem_set h with h | h
  · obtain ⟨j, _, rfl⟩ := List.mem_map.mp h
    exact .inr ⟨j, rfl⟩
  · exact .inl h
theorem okN_nest {t : Nat} (ht : t ≤ 10) (pl : Nat → Nat) : ∀ c : List Lev, (∀ x ∈ c, x.size ≤ 50 ∧ x.row ≤ 50 ∧ x.nk ≤ 50) → okN (nest t pl c) = true
  | [], _ => by simp [nest, okN, okNs]
  | [l], h => by
    have := h l (.head _)
    simp only [nest, okN, okNs, Bool.and_true, Bool.and_eq_true, decide_eq_true_eq, List.length_nil]
    omega
  | l :: l' :: c, h => by
    have h1 := h l (.head _)
    rw [nest, okN]
    simp only [Bool.and_eq_true, decide_eq_true_eq, List.length_set, List.length_map, List.length_range]
    refine ⟨⟨⟨h1.1, h1.2.1⟩, h1.2.2⟩, okNs_of fun k hk => ?_⟩
    rcases kids_mem hk with rfl | ⟨j, rfl⟩
    · exact okN_nest ht pl (l' :: c) fun x hx => h x (.tail _ hx)
    · exact okN_leaf ht j
theorem kqd_ups {n m : Nat} (h : n ≤ m) (d : Dat) (hk : kqdOk n d = true) : kqdOk m d = true := by
  induction h with
  | refl => exact hk
  | step _ ih => exact kqd_up _ _ ih
theorem kqd_node {n : Nat} {item : Int} {s r : Nat} {ks : List Nest} (h : ∀ k ∈ ks, kqdOk n (datN item k) = true) : kqdOk (n + 2) (datN item (.node s r ks)) = true := by
  rw [datN, datNs_map]
  simp only [kqdOk, List.all_cons, List.all_nil, Bool.and_true, Bool.and_eq_true, List.all_eq_true]
  refine ⟨fun x hx => ?_, fun x hx => ?_, fun x hx => ?_⟩
  · rw [List.eq_of_mem_replicate hx]; cases n <;> rfl
  · rw [List.eq_of_mem_replicate hx]; cases n <;> rfl
  · obtain ⟨k, hk, rfl⟩ := List.mem_map.mp hx
    exact h k hk
theorem kqd_nest (t : Nat) (pl : Nat → Nat) (item : Int) : ∀ c : List Lev, kqdOk (2 * c.length + 2) (datN item (nest t pl c)) = true
  | [] => kqd_node fun _ h => nomatch h
  | [l] => kqd_node fun _ h => nomatch h
  | l :: l' :: c => by
    rw [nest]
    refine kqd_node (n := 2 * (l' :: c).length + 2) fun k hk => ?_
    rcases kids_mem hk with rfl | ⟨j, rfl⟩
    · exact kqd_nest t pl item (l' :: c)
    · exact kqd_ups (n := 2) (by omega) _ (kqd_node fun _ h => nomatch h)
theorem levsUp_b (ns : List Int) {t h : Int} (ht : 1 ≤ t) (ht2 : t ≤ 4) : ∀ i, ∀ x ∈ levsUp ns t h i, x.size ≤ 50 ∧ x.row ≤ 50 ∧ x.nk ≤ 50
  | 0, _, hx => nomatch hx
  | i + 1, x, hx => by
    rw [levsUp] at hx
    rcases List.mem_cons.mp hx with rfl | hx
    · have h1 := size_b ns ht (h - i)
      have h2 := extra_b ns h (h - i)
      have h3 := more_b ns h (h - i)
      show (sizeI ns t (h - i)).toNat ≤ 50 ∧ (rowI ns t h (h - i)).toNat ≤ 50 ∧ (nkI ns t h (h - i)).toNat ≤ 50
      unfold rowI nkI
      omega
    · exact levsUp_b ns ht ht2 i x hx
section
variable {prog : Program} {w : World} {A : Around} {E : Value → Shared → Prop} {s : Shared} {h₀ : Heap} {L : Addr} {a b : Value} {news n₁ n₂ : List (Addr × Obj)} {d : Dat} {Q : Value → Shared → Prop}
theorem ne_one (N : News h₀ L s.heap news) (Da : DatIn n₁ a d) (sa : ∀ p ∈ n₁, p ∈ news) (Db : DatIn n₂ b d) (sb : ∀ p ∈ n₂, p ∈ news) (ha : kqdOk 8 d = true) (hu : A.units + 64 < cLine) (h : Q (.bool false) s) :
    wpAny (model prog w) A (compareOp .NotEq a b) Q E s := by
  obtain ⟨as, ra⟩ := kqd_in N 8 (Da.mono sa) ha
  obtain ⟨bs, rb⟩ := kqd_in N 8 (Db.mono sb) ha
  have la := kqd_lay 8 d ha
  have e : PyData.eqv (kqdP d) (kqdP d) = true := (kqd_eqv 8 d d 8 ha ha).mpr rfl
  refine ne_dataH ra rb ?_ ?_ hu (by rw [e]; exact h)
  · unfold SeqAt.shaped; rw [la.1, Bool.true_and]; exact decide_eq_true (Nat.le_trans la.2 (by decide))
  · unfold SeqAt.shaped; rw [la.1, Bool.true_and]; exact decide_eq_true (Nat.le_trans la.2 (by decide))
end
theorem nest_ref {nw : List (Addr × Obj)} {item : Int} {v : Value} : ∀ {n : Nest}, DatIn nw v (datN item n) → ∃ a, v = .ref a
  | .node _ _ _, h => by
    obtain ⟨na, _, _, _, _, _, _, _, _, _, _, rfl, _⟩ := node_inv h
    exact ⟨na, rfl⟩
theorem shape_yes (ns : List Int) {t h : Nat} (ht : 1 ≤ t) {root : Bool} (hg : goodUp ns t h root (h + 1) = true) (d : Nat) : shape t (nest t (placeN ns) (levsUp ns t h (h + 1))) root d = if d ≤ h then none else some true := by
  have e := shape_good ht (place_lt ns) (levsUp ns t h h) (levI ns t h (h - (h : Nat))) root (levsUp_nk ns (by omega) (h + 1)) ((good_all ns ht root).mpr hg) d
  rw [levsUp_len] at e
  exact e
theorem shape_no (ns : List Int) {t h : Nat} (ht : 1 ≤ t) {root : Bool} (hg : goodUp ns t h root (h + 1) = false) {d : Nat} (hd : h < d) : shape t (nest t (placeN ns) (levsUp ns t h (h + 1))) root d = some false := by
  refine shape_bad ht (place_lt ns) (levsUp ns t h h) (levI ns t h (h - (h : Nat))) root (levsUp_nk ns (by omega) (h + 1)) (fun hc => ?_) d (by rw [levsUp_len]; exact hd)
  have := (good_all ns ht root).mp hc
  rw [hg] at this
  cases this
end Mine
end

section
open PySem PySem.W PyProof.Rows PySem.Calls PySem.Spec
set_option maxHeartbeats 8000000
namespace Mine
theorem sub1 {e : Addr × Obj} {tl news : List (Addr × Obj)} (h1 : e ∈ news) (h3 : ∀ p ∈ tl, p ∈ news) : ∀ p ∈ e :: tl, p ∈ news := fun p hp => (List.mem_cons.mp hp).elim (fun q => q ▸ h1) (h3 p)
end Mine
open Mine
local macro_rules | `(tactic| k_all) => `(tactic| assumption)
local macro_rules | `(tactic| walk_at "compareOp NotEq ref ref") => `(tactic| refine hold ?_)
local macro_rules | `(tactic| walk_at "call ref") => `(tactic| ((with_reducible show wpAny _ _ (call (Value.ref 53) _) _ _ _); refine hold ?_))
local macro_rules | `(tactic| walk_at "call ref") => `(tactic| ((with_reducible show wpAny _ _ (call (Value.ref 34) _) _ _ _); refine hold ?_))
theorem PySem.Challenge.cw_k16_0019_holds : PySem.Challenge.rw_k16_0019.Holds := by
  refine Mine.hd ?_
  k_go0; (all_goals try k_fold)
  rename_i w s₀ s₁ mg mb G Y fa o pm doc kV ho hg KX X V GL T B TE TW w9 w8 M w7 w6 hcd ns hs hlay0 hL1 hr1 hl2 w4 w3 l vs0 as hL ra w1 r0 hI hr hc1 hc K0 hD h1 F N0
  have hns : ns.length ≤ 63 := by omega
  k_steps
  unfold Hold
  rename Fr _ _ _ _ => lF
  rename News _ _ _ _ => lN
  have hx0 := fmod_lo (cellAt ns 0 0) (n := 3) (by decide)
  have hx1 := fmod_hi (cellAt ns 0 0) (n := 3) (by decide)
  have hy0 := fmod_lo (cellAt ns 2 0) (n := 3) (by decide)
  have hy1 := fmod_hi (cellAt ns 2 0) (n := 3) (by decide)
  generalize (cellAt ns 0 0).fmod 3 = x at *
  generalize (cellAt ns 2 0).fmod 3 = y at *
  generalize hT0 : (2 : Int) + x = T0 at *
  obtain ⟨tN, rfl⟩ : ∃ tN : Nat, T0 = (tN : Int) := ⟨T0.toNat, by omega⟩
  obtain ⟨hN, rfl⟩ : ∃ hN : Nat, y = (hN : Int) := ⟨y.toNat, by omega⟩
  generalize ((cellAt ns 1 0).fmod 2 == 0) = root at *
  have ht1 : 2 ≤ tN := by omega
  have ht2 : tN ≤ 4 := by omega
  have hh2 : hN ≤ 2 := by omega
  refine' says_use (nest_ct w _ mg mb) (ns, tN, hN, root) [] ?k1 ?k2 ?k3 ?k4 ?k5 ?k6 ?k7 ?k8 ?k9 ?k10 ?_
  (case k1 => k_asm)
  (case k2 => k_asm)
  (case k3 => k_asm)
  (case k4 => k_asm)
  (case k5 => k_asm)
  (case k6 => exact rfl)
  (case k7 => exact fun _ h => nomatch h)
  (case k8 => exact ⟨l, vs0, _, _, rfl, hL, hI, hns, ht1, ht2, hh2⟩)
  (case k9 => exact Nat.le_of_ble_eq_true rfl)
  (case k10 => exact Nat.le_of_ble_eq_true rfl)
  rintro _ tl h2 tk2 F2 N2 off2 ⟨na, nn, nv, rfl, hnm, hnd⟩
  dsimp only at hnm hnd
  clear lF lN
  generalize hgd : goodUp ns tN hN root (hN + 1) = good at *
  rw [List.nil_append] at N2
  dsimp only
  obtain ⟨v1, rfl⟩ := nest_ref hnd
  have hok := okN_nest (t := tN) (by omega) (placeN ns) _ (levsUp_b ns (t := tN) (h := hN) (by omega) (by omega) (hN + 1))
  have hkq : kqdOk 8 (datN (cellAt ns 6 0) (nest tN (placeN ns) (levsUp ns tN hN (hN + 1)))) = true :=
    kqd_ups (by rw [levsUp_len]; omega) _ (kqd_nest tN (placeN ns) (cellAt ns 6 0) (levsUp ns tN hN (hN + 1)))
  k_steps
  · unfold Hold
    have he1 := fmod_hi (1 + cellAt ns 3 0) (n := 8) (by decide)
    generalize (1 + cellAt ns 3 0).fmod 8 = e at *
    obtain ⟨dN, rfl⟩ : ∃ dN : Nat, e = (dN : Int) := ⟨e.toNat, by omega⟩
    subst good
    have hdN : dN ≤ 9 := by omega
    refine' shape_ct w _ mg mb (cellAt ns 6 0) tN ⟨by omega, by omega⟩ dN _ root _ _ _ _ _ _ _ _ _ _ _ _ _ _ tl tl _ _ _ _ _ _ hok hkq ?k1 ?k2 ?k3 ?k4 ?k5 ?k6 ?k7 hnd ?k9 ?k10 ?_ ?_
    (case k1 => k_asm)
    (case k2 => k_asm)
    (case k3 => k_asm)
    (case k4 => k_asm)
    (case k5 => k_asm)
    (case k6 => exact rfl)
    (case k7 => exact fun _ h => h)
    (case k9 => exact Nat.lt_of_le_of_lt (Nat.add_le_add_right (Nat.add_le_add_left hdN _) _) (Nat.le_of_ble_eq_true rfl))
    (case k10 => exact Nat.lt_of_le_of_lt (Nat.add_le_add_left (Nat.mul_le_mul_left 20 (Nat.add_le_add_right hdN 10)) _) (Nat.le_of_ble_eq_true rfl))
    · intro b h5 tk5 hsh F5 N5
      rw [shape_yes ns (by omega) (by assumption)] at hsh
      by_cases hle : dN ≤ hN
      · rw [if_pos hle] at hsh; cases hsh
      rw [if_neg hle] at hsh
      cases hsh
      k_steps
      unfold Hold
      refine' says_use (nest_ct w _ mg mb) (ns, tN, hN, root) [] ?k1 ?k2 ?k3 ?k4 ?k5 ?k6 ?k7 ?k8 ?k9 ?k10 ?_
      (case k1 => k_asm)
      (case k2 => k_asm)
      (case k3 => k_asm)
      (case k4 => k_asm)
      (case k5 => k_asm)
      (case k6 => exact rfl)
      (case k7 => exact fun _ h => nomatch h)
      (case k8 => exact ⟨l, vs0, _, _, rfl, hL, hI, hns, ht1, ht2, hh2⟩)
      (case k9 => exact Nat.le_of_ble_eq_true rfl)
      (case k10 => exact Nat.le_of_ble_eq_true rfl)
      rintro _ tl6 h6 tk6 F6 N6 off6 ⟨na6, nn6, nv6, rfl, hnm6, hnd6⟩
      dsimp only at hnm6 hnd6
      obtain ⟨v6, rfl⟩ := nest_ref hnd6
      have N7 := kst_newsOf (l' := _ :: (tl ++ tl6)) N6 (sub1 (List.mem_append_right _ hnm6) (fun _ h => h))
      clear N6
      dsimp only
      k_steps
      unfold Hold
      refine ne_one (by k_asm) hnd (fun p hp => .tail _ (List.mem_append_left _ hp)) hnd6 (fun p hp => .tail _ (List.mem_append_right _ hp)) hkq (Nat.le_of_ble_eq_true rfl) ?_
      dsimp only
      k_steps
    · intro e5 ta5 vs5 g5 h5 tk5 hsh F5 R5 U5
      rw [shape_yes ns (by omega) (by assumption)] at hsh
      by_cases hle' : ¬ dN ≤ hN
      · rw [if_neg hle'] at hsh; cases hsh
      have hle : dN ≤ hN := Nat.le_of_not_lt fun q => hle' (Nat.not_le_of_lt q)
      k_steps
      unfold Hold
      refine' says_use (nest_ct w _ mg mb) (ns, tN, hN, root) [] ?k1 ?k2 ?k3 ?k4 ?k5 ?k6 ?k7 ?k8 ?k9 ?k10 ?_
      (case k1 => k_asm)
      (case k2 => k_asm)
      (case k3 => k_asm)
      (case k4 => k_asm)
      (case k5 => k_asm)
      (case k6 => exact rfl)
      (case k7 => exact fun _ h => nomatch h)
      (case k8 => exact ⟨l, vs0, _, _, rfl, hL, hI, hns, ht1, ht2, hh2⟩)
      (case k9 => exact Nat.le_of_ble_eq_true rfl)
      (case k10 => exact Nat.le_of_ble_eq_true rfl)
      rintro _ tl6 h6 tk6 F6 N6 off6 ⟨na6, nn6, nv6, rfl, hnm6, hnd6⟩
      dsimp only at hnm6 hnd6
      obtain ⟨v6, rfl⟩ := nest_ref hnd6
      have N7 := kst_newsOf (l' := _ :: (tl ++ tl6)) N6 (sub1 (List.mem_append_right _ hnm6) (fun _ h => h))
      clear N6
      dsimp only
      k_steps
      unfold Hold
      refine ne_one (by k_asm) hnd (fun p hp => .tail _ (List.mem_append_left _ hp)) hnd6 (fun p hp => .tail _ (List.mem_append_right _ hp)) hkq (Nat.le_of_ble_eq_true rfl) ?_
      dsimp only
      k_steps
  · unfold Hold
    have he1 := fmod_hi (1 + cellAt ns 3 0) (n := 8) (by decide)
    generalize (1 + cellAt ns 3 0).fmod 8 = e at *
    generalize hdd : e + (hN : Int) = dd at *
    obtain ⟨dN, rfl⟩ : ∃ dN : Nat, dd = (dN : Int) := ⟨dd.toNat, by omega⟩
    subst good
    have hdN : dN ≤ 9 := by omega
    have hlt : hN < dN := by omega
    refine' shape_ct w _ mg mb (cellAt ns 6 0) tN ⟨by omega, by omega⟩ dN _ root _ _ _ _ _ _ _ _ _ _ _ _ _ _ tl tl _ _ _ _ _ _ hok hkq ?k1 ?k2 ?k3 ?k4 ?k5 ?k6 ?k7 hnd ?k9 ?k10 ?_ ?_
    (case k1 => k_asm)
    (case k2 => k_asm)
    (case k3 => k_asm)
    (case k4 => k_asm)
    (case k5 => k_asm)
    (case k6 => exact rfl)
    (case k7 => exact fun _ h => h)
    (case k9 => exact Nat.lt_of_le_of_lt (Nat.add_le_add_right (Nat.add_le_add_left hdN _) _) (Nat.le_of_ble_eq_true rfl))
    (case k10 => exact Nat.lt_of_le_of_lt (Nat.add_le_add_left (Nat.mul_le_mul_left 20 (Nat.add_le_add_right hdN 10)) _) (Nat.le_of_ble_eq_true rfl))
    · intro b h5 tk5 hsh F5 N5
      rw [shape_no ns (by omega) (by assumption) hlt] at hsh
      cases hsh
      k_steps
      unfold Hold
      refine' says_use (nest_ct w _ mg mb) (ns, tN, hN, root) [] ?k1 ?k2 ?k3 ?k4 ?k5 ?k6 ?k7 ?k8 ?k9 ?k10 ?_
      (case k1 => k_asm)
      (case k2 => k_asm)
      (case k3 => k_asm)
      (case k4 => k_asm)
      (case k5 => k_asm)
      (case k6 => exact rfl)
      (case k7 => exact fun _ h => nomatch h)
      (case k8 => exact ⟨l, vs0, _, _, rfl, hL, hI, hns, ht1, ht2, hh2⟩)
      (case k9 => exact Nat.le_of_ble_eq_true rfl)
      (case k10 => exact Nat.le_of_ble_eq_true rfl)
      rintro _ tl6 h6 tk6 F6 N6 off6 ⟨na6, nn6, nv6, rfl, hnm6, hnd6⟩
      dsimp only at hnm6 hnd6
      obtain ⟨v6, rfl⟩ := nest_ref hnd6
      have N7 := kst_newsOf (l' := _ :: (tl ++ tl6)) N6 (sub1 (List.mem_append_right _ hnm6) (fun _ h => h))
      clear N6
      dsimp only
      k_steps
      unfold Hold
      refine ne_one (by k_asm) hnd (fun p hp => .tail _ (List.mem_append_left _ hp)) hnd6 (fun p hp => .tail _ (List.mem_append_right _ hp)) hkq (Nat.le_of_ble_eq_true rfl) ?_
      dsimp only
      k_steps
    · intro e5 ta5 vs5 g5 h5 tk5 hsh F5 R5 U5
      rw [shape_no ns (by omega) (by assumption) hlt] at hsh
      cases hsh
  · unfold Hold
    have he0 := fmod_lo (1 + cellAt ns 3 0) (n := 8) (by decide)
    generalize (1 + cellAt ns 3 0).fmod 8 = e at *
    obtain ⟨dN, rfl⟩ : ∃ dN : Nat, e = (dN : Int) := ⟨e.toNat, by omega⟩
    have hd0 : dN = 0 := by omega
    subst hd0
    have hdN : 0 ≤ 9 := by omega
    refine' shape_ct w _ mg mb (cellAt ns 6 0) tN ⟨by omega, by omega⟩ 0 _ root _ _ _ _ _ _ _ _ _ _ _ _ _ _ tl tl _ _ _ _ _ _ hok hkq ?k1 ?k2 ?k3 ?k4 ?k5 ?k6 ?k7 hnd ?k9 ?k10 ?_ ?_
    (case k1 => k_asm)
    (case k2 => k_asm)
    (case k3 => k_asm)
    (case k4 => k_asm)
    (case k5 => k_asm)
    (case k6 => exact rfl)
    (case k7 => exact fun _ h => h)
    (case k9 => exact Nat.lt_of_le_of_lt (Nat.add_le_add_right (Nat.add_le_add_left hdN _) _) (Nat.le_of_ble_eq_true rfl))
    (case k10 => exact Nat.lt_of_le_of_lt (Nat.add_le_add_left (Nat.mul_le_mul_left 20 (Nat.add_le_add_right hdN 10)) _) (Nat.le_of_ble_eq_true rfl))
    · intro b h5 tk5 hsh F5 N5
      rw [shape_zero] at hsh
      cases hsh
    · intro e5 ta5 vs5 g5 h5 tk5 hsh F5 R5 U5
      have hle : 0 ≤ hN := Nat.zero_le _
      k_steps
      unfold Hold
      refine' says_use (nest_ct w _ mg mb) (ns, tN, hN, root) [] ?k1 ?k2 ?k3 ?k4 ?k5 ?k6 ?k7 ?k8 ?k9 ?k10 ?_
      (case k1 => k_asm)
      (case k2 => k_asm)
      (case k3 => k_asm)
      (case k4 => k_asm)
      (case k5 => k_asm)
      (case k6 => exact rfl)
      (case k7 => exact fun _ h => nomatch h)
      (case k8 => exact ⟨l, vs0, _, _, rfl, hL, hI, hns, ht1, ht2, hh2⟩)
      (case k9 => exact Nat.le_of_ble_eq_true rfl)
      (case k10 => exact Nat.le_of_ble_eq_true rfl)
      rintro _ tl6 h6 tk6 F6 N6 off6 ⟨na6, nn6, nv6, rfl, hnm6, hnd6⟩
      dsimp only at hnm6 hnd6
      obtain ⟨v6, rfl⟩ := nest_ref hnd6
      have N7 := kst_newsOf (l' := _ :: (tl ++ tl6)) N6 (sub1 (List.mem_append_right _ hnm6) (fun _ h => h))
      clear N6
      dsimp only
      k_steps
      unfold Hold
      refine ne_one (by k_asm) hnd (fun p hp => .tail _ (List.mem_append_left _ hp)) hnd6 (fun p hp => .tail _ (List.mem_append_right _ hp)) hkq (Nat.le_of_ble_eq_true rfl) ?_
      dsimp only
      k_steps
  
end
