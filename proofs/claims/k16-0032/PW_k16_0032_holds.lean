import PyProof.Rows.All
import Wide.All
import OpenK.AllK
import Wide.FinOn
import PySem.Challenge.RW_k16_0032
open PySem PySem.W PyProof.Rows
set_option Elab.async false
set_option maxRecDepth 100000
namespace Mine
set_option maxHeartbeats 8000000
open_top hd for PySem.Challenge.rw_k16_0032
end Mine

section
namespace Mine

structure Deed where
  put : Bool
  key : Int
  val : Int

def stepPut (key val : Int) (st : List (Int × Int) × Bool) (p : Int × Int) : List (Int × Int) × Bool :=
  if p.1 = key then (st.1 ++ [(key, val)], true)
  else if st.2 = false ∧ p.1 > key then (st.1 ++ [(key, val)] ++ [p], true)
  else (st.1 ++ [p], st.2)

def mput (ps : List (Int × Int)) (key val : Int) : List (Int × Int) :=
  if (ps.foldl (stepPut key val) ([], false)).2 then (ps.foldl (stepPut key val) ([], false)).1
  else (ps.foldl (stepPut key val) ([], false)).1 ++ [(key, val)]

def mdel (ps : List (Int × Int)) (key : Int) : List (Int × Int) := ps.filter fun p => decide (p.1 ≠ key)

def mstep (ps : List (Int × Int)) (d : Deed) : List (Int × Int) := if d.put then mput ps d.key d.val else mdel ps d.key
def mrun (ds : List Deed) : List (Int × Int) := ds.foldl mstep []

def lastOf (ds : List Deed) (k : Int) : Option Deed := ds.foldl (fun acc d => if d.key = k then some d else acc) none

abbrev Up (l : List (Int × Int)) : Prop := l.Pairwise fun a b => a.1 < b.1

theorem fold_true (k v : Int) : ∀ (ps out : List (Int × Int)), (∀ p ∈ ps, p.1 ≠ k) → ps.foldl (stepPut k v) (out, true) = (out ++ ps, true) := by
  intro ps
  induction ps with
  | nil => intro out _; simp
  | cons p r ih =>
    intro out h
    have h1 := h p (by simp)
    rw [List.foldl_cons]
    have e : stepPut k v (out, true) p = (out ++ [p], true) := by simp [stepPut, h1]
    rw [e, ih _ fun q hq => h q (by simp [hq])]
    simp

theorem fold_false (k v : Int) : ∀ (ps out : List (Int × Int)), Up ps →
    (if (ps.foldl (stepPut k v) (out, false)).2 then (ps.foldl (stepPut k v) (out, false)).1 else (ps.foldl (stepPut k v) (out, false)).1 ++ [(k, v)])
      = out ++ ((ps.filter fun p => decide (p.1 < k)) ++ (k, v) :: ps.filter fun p => decide (k < p.1)) := by
  intro ps
  induction ps with
  | nil => intro out _; simp
  | cons p r ih =>
    intro out h
    obtain ⟨h1, h2⟩ := List.pairwise_cons.mp h
    rw [List.foldl_cons]
    by_cases e : p.1 = k
    · have e1 : stepPut k v (out, false) p = (out ++ [(k, v)], true) := by simp [stepPut, e]
      have big : ∀ q ∈ r, k < q.1 := fun q hq => by have := h1 q hq; omega
      rw [e1, fold_true k v r _ fun q hq => by have := big q hq; omega]
      have f1 : (r.filter fun p => decide (p.1 < k)) = [] := by
        rw [List.filter_eq_nil_iff]; intro q hq; have := big q hq; simp; omega
      have f2 : (r.filter fun p => decide (k < p.1)) = r := by
        rw [List.filter_eq_self]; intro q hq; have := big q hq; simp; omega
      simp [e, f1, f2]
    · by_cases g : p.1 > k
      · have e1 : stepPut k v (out, false) p = (out ++ [(k, v)] ++ [p], true) := by simp [stepPut, e, g]
        have big : ∀ q ∈ r, k < q.1 := fun q hq => by have := h1 q hq; omega
        rw [e1, fold_true k v r _ fun q hq => by have := big q hq; omega]
        have f1 : (r.filter fun p => decide (p.1 < k)) = [] := by
          rw [List.filter_eq_nil_iff]; intro q hq; have := big q hq; simp; omega
        have f2 : (r.filter fun p => decide (k < p.1)) = r := by
          rw [List.filter_eq_self]; intro q hq; have := big q hq; simp; omega
        have n1 : ¬ p.1 < k := by omega
        have n2 : k < p.1 := g
        simp [n1, n2, f1, f2]
      · have e1 : stepPut k v (out, false) p = (out ++ [p], false) := by simp [stepPut, e, g]
        rw [e1, ih _ h2]
        have n1 : p.1 < k := by omega
        have n2 : ¬ k < p.1 := by omega
        simp [n1, n2]

theorem mput_eq {ps : List (Int × Int)} (h : Up ps) (k v : Int) :
    mput ps k v = (ps.filter fun p => decide (p.1 < k)) ++ (k, v) :: ps.filter fun p => decide (k < p.1) := by
  have := fold_false k v ps [] h
  simpa [mput] using this

theorem mput_up {ps : List (Int × Int)} (h : Up ps) (k v : Int) : Up (mput ps k v) := by
  rw [mput_eq h]
  unfold Up
  rw [List.pairwise_append, List.pairwise_cons]
  refine ⟨h.filter _, ⟨fun q hq => ?_, h.filter _⟩, fun a ha b hb => ?_⟩
  · simpa using (List.mem_filter.mp hq).2
  · have h1 : a.1 < k := by simpa using (List.mem_filter.mp ha).2
    rcases List.mem_cons.mp hb with rfl | hb
    · exact h1
    · have h2 : k < b.1 := by simpa using (List.mem_filter.mp hb).2
      omega

theorem mem_mput {ps : List (Int × Int)} (h : Up ps) (k v : Int) (q : Int × Int) : q ∈ mput ps k v ↔ q = (k, v) ∨ (q.1 ≠ k ∧ q ∈ ps) := by
  rw [mput_eq h]
  simp only [List.mem_append, List.mem_cons, List.mem_filter, decide_eq_true_eq]
  constructor
  · rintro (⟨a, b⟩ | a | ⟨a, b⟩)
    · exact .inr ⟨by omega, a⟩
    · exact .inl a
    · exact .inr ⟨by omega, a⟩
  · rintro (a | ⟨a, b⟩)
    · exact .inr (.inl a)
    · rcases Int.lt_or_gt_of_ne a with c | c
      · exact .inl ⟨b, c⟩
      · exact .inr (.inr ⟨b, c⟩)

theorem mdel_up {ps : List (Int × Int)} (h : Up ps) (k : Int) : Up (mdel ps k) := h.filter _
theorem mem_mdel {ps : List (Int × Int)} (k : Int) (q : Int × Int) : q ∈ mdel ps k ↔ q.1 ≠ k ∧ q ∈ ps := by
  simp [mdel, List.mem_filter, and_comm]

def said (o : Option Deed) (v : Int) : Prop := ∃ d, o = some d ∧ d.put = true ∧ d.val = v

theorem mrun_snoc (ds : List Deed) (d : Deed) : mrun (ds ++ [d]) = mstep (mrun ds) d := by simp [mrun]
theorem lastOf_snoc (ds : List Deed) (d : Deed) (k : Int) : lastOf (ds ++ [d]) k = if d.key = k then some d else lastOf ds k := by simp [lastOf]

theorem snoc_induction {α : Type} {P : List α → Prop} (h0 : P []) (hs : ∀ l a, P l → P (l ++ [a])) : ∀ l, P l := by
  intro l
  have : ∀ n, ∀ l : List α, l.length = n → P l := by
    intro n
    induction n with
    | zero => intro l hl; rw [List.length_eq_zero_iff.mp hl]; exact h0
    | succ n ih =>
      intro l hl
      have hne : l ≠ [] := by intro e; subst e; simp at hl
      rw [← List.dropLast_concat_getLast hne]
      exact hs _ _ (ih _ (by rw [List.length_dropLast, hl]; rfl))
  exact this _ l rfl

theorem mrun_spec : ∀ ds : List Deed, Up (mrun ds) ∧ ∀ k v, (k, v) ∈ mrun ds ↔ said (lastOf ds k) v := by
  refine snoc_induction ?_ ?_
  · refine ⟨.nil, fun k v => ?_⟩
    simp [mrun, lastOf, said]
  · rintro ds d ⟨h1, h2⟩
    rw [mrun_snoc]
    unfold mstep
    cases hp : d.put with
    | true =>
      simp only [if_true]
      refine ⟨mput_up h1 _ _, fun k v => ?_⟩
      rw [mem_mput h1, lastOf_snoc]
      by_cases e : d.key = k
      · rw [if_pos e]
        constructor
        · rintro (a | ⟨a, b⟩)
          · have : v = d.val := by simpa using congrArg Prod.snd a
            exact ⟨d, rfl, hp, this.symm⟩
          · exact absurd e.symm a
        · rintro ⟨d', a, b, c⟩
          cases a
          exact .inl (by rw [← e, ← c])
      · rw [if_neg e, ← h2]
        constructor
        · rintro (a | ⟨a, b⟩)
          · exact absurd (by simpa using (congrArg Prod.fst a).symm) e
          · exact b
        · exact fun a => .inr ⟨fun b => e b.symm, a⟩
    | false =>
      simp only [Bool.false_eq_true, if_false]
      refine ⟨mdel_up h1 _, fun k v => ?_⟩
      rw [mem_mdel, lastOf_snoc]
      by_cases e : d.key = k
      · rw [if_pos e]
        constructor
        · rintro ⟨a, b⟩; exact absurd e.symm a
        · rintro ⟨d', a, b, c⟩
          cases a
          rw [hp] at b; cases b
      · rw [if_neg e, ← h2]
        exact ⟨fun a => a.2, fun a => ⟨fun b => e b.symm, a⟩⟩

/-- two rising lists with the same members are one -/
theorem up_ext : ∀ {a b : List (Int × Int)}, Up a → Up b → (∀ q, q ∈ a ↔ q ∈ b) → a = b := by
  intro a
  induction a with
  | nil =>
    intro b _ _ h
    cases b with
    | nil => rfl
    | cons q r => exact absurd ((h q).mpr (by simp)) (by simp)
  | cons p r ih =>
    intro b ha hb h
    cases b with
    | nil => exact absurd ((h p).mp (by simp)) (by simp)
    | cons q t =>
      obtain ⟨a1, a2⟩ := List.pairwise_cons.mp ha
      obtain ⟨b1, b2⟩ := List.pairwise_cons.mp hb
      have hpq : p = q := by
        rcases List.mem_cons.mp ((h p).mp (by simp)) with e | e
        · exact e
        · rcases List.mem_cons.mp ((h q).mpr (by simp)) with e' | e'
          · exact e'.symm
          · have x := b1 p e
            have y := a1 q e'
            omega
      subst hpq
      congr 1
      refine ih a2 b2 fun z => ?_
      constructor
      · intro hz
        rcases List.mem_cons.mp ((h z).mp (by simp [hz])) with e | e
        · subst e; have := a1 z hz; omega
        · exact e
      · intro hz
        rcases List.mem_cons.mp ((h z).mpr (by simp [hz])) with e | e
        · subst e; have := b1 z hz; omega
        · exact e

def dueOne (ds : List Deed) (k : Int) : Option (Int × Int) := match lastOf ds k with
  | some d => if d.put then some (k, d.val) else none
  | none => none
def dueOf (ds : List Deed) (ks : List Int) : List (Int × Int) := ks.filterMap (dueOne ds)

theorem dueOne_some {ds : List Deed} {k : Int} {q : Int × Int} : dueOne ds k = some q ↔ q.1 = k ∧ said (lastOf ds k) q.2 := by
  unfold dueOne said
  cases e : lastOf ds k with
  | none => simp
  | some d =>
    cases hp : d.put with
    | false => simp [hp]
    | true =>
      simp only [hp, if_true, Option.some.injEq]
      constructor
      · rintro rfl; exact ⟨rfl, d, rfl, hp, rfl⟩
      · rintro ⟨a, d', rfl, _, c⟩
        exact Prod.ext a.symm c

theorem due_is {ds : List Deed} {ks : List Int} (hs : ks.Pairwise (· < ·)) (hk : ∀ k, (lastOf ds k).isSome = true → k ∈ ks) : mrun ds = dueOf ds ks := by
  obtain ⟨h1, h2⟩ := mrun_spec ds
  refine up_ext h1 ?_ fun q => ?_
  · unfold Up dueOf
    rw [List.pairwise_filterMap]
    refine hs.imp fun {a b} hab x hx y hy => ?_
    have e1 := (dueOne_some.mp hx).1
    have e2 := (dueOne_some.mp hy).1
    omega
  · obtain ⟨k, v⟩ := q
    rw [h2]
    unfold dueOf
    rw [List.mem_filterMap]
    constructor
    · intro hq
      obtain ⟨d, e, _, _⟩ := id hq
      exact ⟨k, hk k (by rw [e]; rfl), dueOne_some.mpr ⟨rfl, hq⟩⟩
    · rintro ⟨k', _, e⟩
      obtain ⟨e1, e2⟩ := dueOne_some.mp e
      have e1' : k = k' := e1
      subst e1'
      exact e2

theorem strict_of {ks : List Int} (h : ks.Pairwise (· ≤ ·)) (hn : ks.Nodup) : ks.Pairwise (· < ·) := by
  have := h.and hn
  exact this.imp fun {a b} ⟨x, y⟩ => by omega
end Mine
end

section
open PySem PySem.W PyProof.Rows PySem.Calls PySem.Spec
set_option maxHeartbeats 8000000
namespace Mine
section
variable {prog : Program} {w : World} {A : Around} {h₀ : Heap} {L : Addr} {m : Str → Option Value} {env : Env} {ct elt : PySem.Expr} {x : Str} {scope : Scope} {cl : List (Str × Addr)} {s : Shared} {S : List (Addr × Obj) → Prop} {P : Nat → Value → Prop} {Fin : List Value → List (Addr × Obj) → Prop} {news : List (Addr × Obj)}

theorem compEnd_mono {s₁ s₂ : Shared} {I C D : Addr} {oI oC oD : Obj} {r r' : Value → List (Addr × Obj) → Prop} {y : Value} (h : ∀ nw, r y nw → r' y nw)
    (e : LCg.CompEnd h₀ L m s₁ I oI C oC D oD S r y s₂) : LCg.CompEnd h₀ L m s₁ I oI C oC D oD S r' y s₂ := by
  obtain ⟨h', tk, nw, e1, F, N, off, hS, hr⟩ := e
  exact ⟨h', tk, nw, e1, F, N, off, hS, h nw hr⟩

/-- a comprehension with one test, by what holds between its turns -/
theorem comp_inv {n : Nat} (Inv : Nat → List Value → List (Addr × Obj) → Prop) (h0 : Inv 0 [] news)
    (turn : ∀ i v I oI C oC D m₂ ys nw h tk (E' : Value → Shared → Prop), i < n → P i v → Inv i ys nw → LCg.NsObj oC m₂ → m₂ x = some v → Fr h₀ L h m → News h₀ L h ((I, oI) :: (C, oC) :: (D, LCg.lst ys) :: nw) → LCg.Off3 I C D nw → ((@Ne Nat I C) ∧ (@Ne Nat I D) ∧ (@Ne Nat C D)) →
      wpAny (model prog w) A (isTrue ct (compEnvC scope cl C env) (eval ct (compEnvC scope cl C env))) (fun b s' => if b = true then wpAny (model prog w) A (eval elt (compEnvC scope cl C env)) (LCg.CompEnd h₀ L m { s with heap := h, toks := tk } I oI C oC D (LCg.lst ys) S (fun y nw' => Inv (i + 1) (ys ++ [y]) nw')) E' s'
        else LCg.CompEnd h₀ L m { s with heap := h, toks := tk } I oI C oC D (LCg.lst ys) S (fun _ nw' => Inv (i + 1) ys nw') Value.none s') E' { s with heap := h, toks := tk })
    (fin : ∀ ys nw, Inv n ys nw → Fin ys nw) : LCt.CompRestT prog w A h₀ L m env ct elt x scope cl s S P Fin n 0 [] news := by
  have key : ∀ (j i : Nat) (ys : List Value) (nw : List (Addr × Obj)), i + j = n → Inv i ys nw → LCt.CompRestT prog w A h₀ L m env ct elt x scope cl s S P Fin j i ys nw := by
    intro j
    induction j with
    | zero =>
      intro i ys nw hi hy
      have e : i = n := by omega
      subst e
      exact LCt.CompRestT.zero (fin ys nw hy)
    | succ j ih =>
      intro i ys nw hi hy
      refine LCt.CompRestT.succ ?_
      intro v I oI C oC D m₂ h tk E' hv hC hx F N off ne
      refine wpAny_mono (turn i v I oI C oC D m₂ ys nw h tk E' (by omega) hv hy hC hx F N off ne) (fun b s₂ hq => ?_) fun _ _ e => e
      cases b with
      | true =>
        simp only [if_true] at hq ⊢
        exact wpAny_mono hq (fun y s₃ hr => compEnd_mono (fun nw' hi' => ih (i + 1) _ nw' (by omega) hi') hr) fun _ _ e => e
      | false =>
        simp only [Bool.false_eq_true, if_false] at hq ⊢
        exact compEnd_mono (fun nw' hi' => ih (i + 1) _ nw' (by omega) hi') hq
  exact key n 0 [] news (by omega) h0

/-- the same without a test -/
theorem comp_inv0 {n : Nat} (Inv : Nat → List Value → List (Addr × Obj) → Prop) (h0 : Inv 0 [] news)
    (turn : ∀ i v I oI C oC D m₂ ys nw h tk (E' : Value → Shared → Prop), i < n → P i v → Inv i ys nw → LCg.NsObj oC m₂ → m₂ x = some v → Fr h₀ L h m → News h₀ L h ((I, oI) :: (C, oC) :: (D, LCg.lst ys) :: nw) → LCg.Off3 I C D nw → ((@Ne Nat I C) ∧ (@Ne Nat I D) ∧ (@Ne Nat C D)) →
      wpAny (model prog w) A (eval elt (compEnvC scope cl C env)) (LCg.CompEnd h₀ L m { s with heap := h, toks := tk } I oI C oC D (LCg.lst ys) S (fun y nw' => Inv (i + 1) (ys ++ [y]) nw')) E' { s with heap := h, toks := tk })
    (fin : ∀ ys nw, Inv n ys nw → Fin ys nw) : LCg.CompRest prog w A h₀ L m env elt x scope cl s S P Fin n 0 [] news := by
  have key : ∀ (j i : Nat) (ys : List Value) (nw : List (Addr × Obj)), i + j = n → Inv i ys nw → LCg.CompRest prog w A h₀ L m env elt x scope cl s S P Fin j i ys nw := by
    intro j
    induction j with
    | zero =>
      intro i ys nw hi hy
      have e : i = n := by omega
      subst e
      exact LCg.CompRest.zero (fin ys nw hy)
    | succ j ih =>
      intro i ys nw hi hy
      refine LCg.CompRest.succ ?_
      intro v I oI C oC D m₂ h tk E' hv hC hx F N off ne
      exact wpAny_mono (turn i v I oI C oC D m₂ ys nw h tk E' (by omega) hv hy hC hx F N off ne) (fun y s₃ hr => compEnd_mono (fun nw' hi' => ih (i + 1) _ nw' (by omega) hi') hr) fun _ _ e => e
  exact key n 0 [] news (by omega) h0
end
end Mine
end

section
open PySem PySem.W PyProof.Rows PySem.Calls PySem.Spec
set_option maxHeartbeats 8000000
namespace Mine
/-- what a call of the def at f does: the data of its arguments lie in nw, a part of the ledger; what it makes is tl -/
def Says {δ : Type} (prog : Program) (w : World) (K : Frag) (p : Program) (loose : List Str) (mean : ExcName → Option Value) (mg mb : Str → Option Value) (kd : Nat) (f : Addr)
    (Pre : Heap → List (Addr × Obj) → List Value → δ → Prop) (Out : List (Addr × Obj) → List (Addr × Obj) → Value → δ → Prop) : Prop :=
  ∀ (dp un : Nat) (gd : Option (List Code)) (cn : Str) (cs : Scope) (a : Addr) (ccd : Value) (cl : List (Str × Addr)) (outer : List Env) (A₀ : Around) (base h₀ : Heap) (L : Addr) (m : Str → Option Value) (news nw : List (Addr × Obj)) (s : Shared) (vs : List Value) (d : δ)
    (Q E : Value → Shared → Prop),
    Below A₀ base outer h₀ → Fr h₀ L s.heap m → K.In h₀ → News h₀ L s.heap news → Top p loose mean mg mb h₀ → cs.kind = .function → (∀ p ∈ nw, p ∈ news) → Pre base nw vs d → dp + kd < recursionLimit → un + 20 * kd < cLine →
    (∀ r tl h' tk', Fr h₀ L h' m → News h₀ L h' (news ++ tl) → (∀ q ∈ news, ∀ p ∈ tl, p.1 ≠ q.1) → Out nw tl r d → Q r { s with heap := h', toks := tk' }) →
    wpAny (model prog w) (ktrTop dp un gd cn cs L a ccd cl outer) (call (.ref f) vs) Q E s
theorem says_use {δ : Type} {prog : Program} {w : World} {K : Frag} {p : Program} {loose : List Str} {mean : ExcName → Option Value} {mg mb : Str → Option Value} {kd : Nat} {f : Addr}
    {Pre : Heap → List (Addr × Obj) → List Value → δ → Prop} {Out : List (Addr × Obj) → List (Addr × Obj) → Value → δ → Prop} (C : Says prog w K p loose mean mg mb kd f Pre Out) (d : δ) (nw : List (Addr × Obj))
    {dp un : Nat} {gd : Option (List Code)} {cn : Str} {cs : Scope} {a : Addr} {ccd : Value} {cl : List (Str × Addr)} {outer : List Env} {A₀ : Around} {base h₀ : Heap} {L : Addr} {m : Str → Option Value} {news : List (Addr × Obj)} {s : Shared} {vs : List Value}
    {Q E : Value → Shared → Prop}
    (B : Below A₀ base outer h₀) (F : Fr h₀ L s.heap m) (X : K.In h₀) (N : News h₀ L s.heap news) (T : Top p loose mean mg mb h₀) (hk : cs.kind = .function) (hs : ∀ p ∈ nw, p ∈ news) (hp : Pre base nw vs d) (hd : dp + kd < recursionLimit) (hu : un + 20 * kd < cLine)
    (ret : ∀ r tl h' tk', Fr h₀ L h' m → News h₀ L h' (news ++ tl) → (∀ q ∈ news, ∀ p ∈ tl, p.1 ≠ q.1) → Out nw tl r d → Q r { s with heap := h', toks := tk' }) :
    wpAny (model prog w) (ktrTop dp un gd cn cs L a ccd cl outer) (call (.ref f) vs) Q E s := C _ _ _ _ _ _ _ _ _ _ _ _ _ _ _ _ _ _ _ _ _ B F X N T hk hs hp hd hu ret

abbrev pairD (p : Int × Int) : Dat := .tuple [.int p.1, .int p.2]
theorem pair_inv {nw : List (Addr × Obj)} {v : Value} {q : Int × Int} (h : DatIn nw v (pairD q)) :
    ∃ a n t u, v = .ref a ∧ (a, ({ cls := .type "tuple", data := .seq #[.int q.1 t, .int q.2 u] n } : Obj)) ∈ nw := by
  cases h with
  | tuple hm r =>
    cases r with
    | cons h1 r =>
      cases h1
      cases r with
      | cons h2 r =>
        cases h2
        cases r
        exact ⟨_, _, _, _, rfl, hm⟩
theorem list_inv {nw : List (Addr × Obj)} {v : Value} {ds : List Dat} (h : DatIn nw v (.list ds)) : ∃ a vs n, v = .ref a ∧ (a, listOf vs.toArray n) ∈ nw ∧ DatAll nw vs ds := by
  cases h with
  | list hm r => exact ⟨_, _, _, rfl, hm, r⟩
theorem sub_new {nw tl : List (Addr × Obj)} {e : Addr × Obj} : ∀ p ∈ nw ++ tl, p ∈ nw ++ (e :: tl) := fun _ hp => (List.mem_append.mp hp).elim (fun h => List.mem_append_left _ h) fun h => List.mem_append_right _ (.tail _ h)
theorem sub_left {nw tl : List (Addr × Obj)} : ∀ p ∈ nw, p ∈ nw ++ tl := fun _ hp => List.mem_append_left _ hp
theorem sub_mid {nw tl tl2 : List (Addr × Obj)} : ∀ p ∈ nw ++ tl, p ∈ nw ++ (tl2 ++ tl) := fun _ hp => (List.mem_append.mp hp).elim (fun h => List.mem_append_left _ h) fun h => List.mem_append_right _ (List.mem_append_right _ h)
theorem mid_of {a tl tl2 : List (Addr × Obj)} : ∀ p ∈ (a ++ tl) ++ tl2, p ∈ a ++ (tl2 ++ tl) := fun p hp => (List.mem_append.mp hp).elim (fun h => sub_mid p h) fun h => List.mem_append_right _ (List.mem_append_left _ h)
theorem mem_new {nw tl : List (Addr × Obj)} {e : Addr × Obj} : e ∈ nw ++ (e :: tl) := List.mem_append_right _ (.head _)
theorem pair_in {nw : List (Addr × Obj)} {a : Addr} {n : Nat} {t u : Tok} {q : Int × Int} (h : (a, ({ cls := .type "tuple", data := .seq [.int q.1 t, .int q.2 u].toArray n } : Obj)) ∈ nw) : DatIn nw (.ref a) (pairD q) :=
  .tuple h (.cons (.int _ _) (.cons (.int _ _) .nil))
theorem snocD {nw nw' : List (Addr × Obj)} {vs : List Value} {v : Value} {ds : List (Int × Int)} {q : Int × Int} (h : DatAll nw vs (ds.map pairD)) (hs : ∀ p ∈ nw, p ∈ nw') (hv : DatIn nw' v (pairD q)) : DatAll nw' (vs ++ [v]) ((ds ++ [q]).map pairD) := by
  rw [List.map_append]
  exact (h.mono hs).append (.one hv)
theorem all_get {α : Type} {f : α → Dat} {nw : List (Addr × Obj)} {vs : List Value} {ds : List α} (h : DatAll nw vs (ds.map f)) {i : Nat} {v : Value} (hv : vs[i]? = some v) : ∃ q, ds[i]? = some q ∧ DatIn nw v (f q) := by
  have e := h.length
  rw [List.length_map] at e
  have hi : i < vs.length := (List.getElem?_eq_some_iff.mp hv).1
  have hi' : i < (ds.map f).length := by rw [List.length_map]; omega
  obtain ⟨v', hv', hD⟩ := h.get hi'
  rw [hv] at hv'
  have ev := Option.some.inj hv'
  subst ev
  have hi2 : i < ds.length := by omega
  exact ⟨ds[i], List.getElem?_eq_getElem hi2, by simpa using hD⟩
theorem take_snoc {α : Type} {ds : List α} {i : Nat} {q : α} (h : ds[i]? = some q) : ds.take (i + 1) = ds.take i ++ [q] := by
  rw [List.take_add_one, h]; rfl
theorem pull1 {e : Addr × Obj} {nw tl : List (Addr × Obj)} : ∀ p ∈ nw ++ (e :: tl), p ∈ e :: (nw ++ tl) := by
  intro p hp
  rcases List.mem_append.mp hp with hp | hp
  · exact .tail _ (List.mem_append_left _ hp)
  · rcases List.mem_cons.mp hp with rfl | hp
    · exact .head _
    · exact .tail _ (List.mem_append_right _ hp)
theorem pull2 {e f : Addr × Obj} {nw tl : List (Addr × Obj)} : ∀ p ∈ nw ++ (e :: f :: tl), p ∈ e :: f :: (nw ++ tl) := by
  intro p hp
  rcases List.mem_cons.mp (pull1 p hp) with rfl | hp
  · exact .head _
  · exact .tail _ (pull1 p hp)
theorem front1 {e : Addr × Obj} {nw : List (Addr × Obj)} : ∀ p ∈ nw ++ [e], p ∈ e :: nw := by
  intro p hp
  rcases List.mem_append.mp hp with hp | hp
  · exact .tail _ hp
  · rw [List.mem_singleton.mp hp]; exact .head _
theorem off_cons {e : Addr × Obj} {nw tl : List (Addr × Obj)} (h1 : ∀ q ∈ nw, q.1 < e.1) (h2 : ∀ q ∈ nw, ∀ p ∈ tl, p.1 ≠ q.1) : ∀ q ∈ nw, ∀ p ∈ e :: tl, p.1 ≠ q.1 := by
  intro q hq p hp
  rcases List.mem_cons.mp hp with rfl | hp
  · exact Nat.ne_of_gt (h1 q hq)
  · exact h2 q hq p hp
theorem off_of {tl nw : List (Addr × Obj)} {o : Addr} (h : OwnOff tl (o :: nw.map (·.1))) : ∀ q ∈ nw, ∀ p ∈ tl, p.1 ≠ q.1 := fun q hq p hp => h p hp q.1 (.tail _ (List.mem_map.mpr ⟨q, hq, rfl⟩))
theorem off_of0 {tl nw : List (Addr × Obj)} (h : OwnOff tl (nw.map (·.1))) : ∀ q ∈ nw, ∀ p ∈ tl, p.1 ≠ q.1 := fun q hq p hp => h p hp q.1 (List.mem_map.mpr ⟨q, hq, rfl⟩)
theorem off1_mem {D : Addr} : ∀ {l : List (Addr × Obj)}, LCg.Off1 D l → ∀ p ∈ l, p.1 ≠ D
  | [], _, _, h => nomatch h
  | _ :: _, x, p, h => by
    rcases List.mem_cons.mp h with rfl | h
    · exact x.1
    · exact off1_mem x.2 p h

section
variable {prog : Program} {w : World} {A : Around} {E : Value → Shared → Prop} {s : Shared} {env : Env} {h₀ : Heap} {x : Str} {body : List Stmt} {Q : Flow → Shared → Prop}
set_option maxHeartbeats 3200000 in
/-- a loop over a list of the ledger, by what holds between its turns; G speaks of what the turns have made -/
theorem lp_list {σ : Type} {l : Addr} {vs : List Value} {nn : Nat} {m₀ : Str → Option Value} {news : List (Addr × Obj)} (Led : σ → List (Addr × Obj)) (cst : List (Addr × Obj)) (ps : σ → List (Str × Value)) (G : List (Addr × Obj) → σ → Prop) (stored : List Str) (P : Nat → σ → Prop) (adr : List Addr) (c₀ : σ)
    (hh : A.handled = none) (hl : (l, listOf vs.toArray nn) ∈ cst) (F : Fr h₀ env.locals s.heap m₀) (N : News h₀ env.locals s.heap news) (hn : ∀ p ∈ Led c₀ ++ (cst ++ []), p ∈ news) (hadr : ∀ c, (Led c ++ cst).map (·.1) = adr) (hf : G [] c₀) (hk : ∀ p ∈ ps c₀, m₀ p.1 = some p.2) (hp : P 0 c₀)
    (turn : ∀ (c : σ) tl i v (u : Str → Option Value) h tk own, vs[i]? = some v → KdSep own tl adr → OwnOff (tl ++ own) adr → G tl c → P i c →
      Fr h₀ env.locals h (fun y => if y = x then some v else kstB (fun z => if stored.contains z then u z else m₀ z) (ps c) y) → News h₀ env.locals h (Led c ++ (cst ++ (tl ++ own))) →
      wpAny (model prog w) A (execs body env) (InvPostG h₀ env.locals (KdS Led cst ps (fun nx c => ∃ tl, nx = cst ++ tl ∧ G tl c) x stored m₀ P adr (i + 1)) own { s with heap := h, toks := tk } Q) E { s with heap := h, toks := tk })
    (done : ∀ (c : σ) tl (u : Str → Option Value) h tk, OwnOff tl adr → G tl c → P vs.length c → Fr h₀ env.locals h (fun y => if y = x then u y else kstB (fun z => if stored.contains z then u z else m₀ z) (ps c) y) → News h₀ env.locals h (Led c ++ (cst ++ tl)) → Q .next { s with heap := h, toks := tk }) :
    wpAny (model prog w) A (pyIter (.ref l)) (fun it s₂ => LoopAtV prog w A h₀ env x body Q E it s₂) E s := by
  refine kdl_iter (news := Led c₀ ++ (cst ++ [])) (fun i m nx => KdS Led cst ps (fun nx c => ∃ tl, nx = cst ++ tl ∧ G tl c) x stored m₀ P adr i m nx) hh (List.mem_append.mpr (.inr (List.mem_append.mpr (.inl hl)))) F (fun p hp => N p (hn p hp))
    ⟨c₀, [], rfl, fun _ hp => (nomatch hp), ⟨[], rfl, hf⟩, hk, fun _ _ _ _ => rfl, hp⟩ ?_ ?_
  · rintro i v m₁ nx h tk own hv hoff _ ⟨c, tl, rfl, ht, ⟨tl', etl, hf'⟩, h1, h2, hp'⟩ F₁ N₁
    have etl' : tl = tl' := List.append_cancel_left etl
    subst etl'
    obtain ⟨o1, o2⟩ := kd_split (hadr c) hoff
    rw [List.append_assoc, List.append_assoc] at N₁
    refine wpAny_mono (turn c tl i v m₁ h tk own hv ⟨o1, o2, ht⟩ (kd_off o1 ht) hf' hp' (kst_fr h1 h2 F₁) N₁) (fun f s₂ p => ?_) fun _ _ x => x
    have up : InvEndG h₀ env.locals (KdS Led cst ps (fun nx c => ∃ tl, nx = cst ++ tl ∧ G tl c) x stored m₀ P adr (i + 1)) own { s with heap := h, toks := tk } s₂ →
        InvEndG h₀ env.locals (fun m' nx => (l, listOf vs.toArray nn) ∈ nx ∧ KdS Led cst ps (fun nx c => ∃ tl, nx = cst ++ tl ∧ G tl c) x stored m₀ P adr (i + 1) m' nx) own { s with heap := h, toks := tk } s₂ := by
      rintro ⟨h', tk', m', news', nx', e', F', N', hn', ho', ha, hS⟩
      refine ⟨h', tk', m', news', nx', e', F', N', hn', ho', ha, ?_, hS⟩
      obtain ⟨c', tl', rfl, _⟩ := hS
      exact List.mem_append.mpr (.inr (List.mem_append.mpr (.inl hl)))
    cases f with
    | ret v => exact p
    | brk => exact p
    | next => exact up p
    | cont => exact up p
  · rintro m₁ nx h tk ⟨c, tl, rfl, ht, ⟨tl', etl, hf'⟩, h1, h2, hp'⟩ F₁ N₁
    have etl' : tl = tl' := List.append_cancel_left etl
    subst etl'
    exact done c tl m₁ h tk ht hf' hp' (kst_frOut h1 h2 F₁) N₁
end

section
variable {σ τ : Type} {fv : σ → List Value} {fn : σ → Nat} {out : Addr} {cst : List (Addr × Obj)} {ps : σ → List (Str × Value)} {G : List (Addr × Obj) → σ → Prop} {x : Str} {stored : List Str} {m₀ : Str → Option Value} {P : τ → σ → Prop} {adr : List Addr} {pre : τ}
  {D : Addr} {o : Obj} {tl own news' : List (Addr × Obj)} {h₀ h' : Heap} {L : Addr} {m' : Str → Option Value} {s₁ : Shared} {tk : Nat}
/-- the end of a turn of a loop that fills one list, a turn that made one object -/
theorem out_end1 (c : σ)
    (h0 : KdSep own tl adr) (F : Fr h₀ L h' m') (N : News h₀ L h' news') (h1 : (out, listOf (fv c).toArray (fn c)) ∈ news') (h2 : (D, o) ∈ news') (hrest : ∀ p ∈ cst ++ (tl ++ own), p ∈ news') (hadr : out :: cst.map (·.1) = adr)
    (hlo : @LT.lt Nat _ out D) (hlr : AllLt D (cst ++ (tl ++ own))) (hk : ∀ p ∈ ps c, m' p.1 = some p.2) (hr : ∀ z, z ≠ x → (∀ p ∈ ps c, z ≠ p.1) → stored.contains z = false → m' z = m₀ z) (hf : G ((D, o) :: tl) c) (hp : P pre c) :
    InvEndG h₀ L (KdS (fun c => [(out, listOf (fv c).toArray (fn c))]) cst ps (fun nx c => ∃ tl, nx = cst ++ tl ∧ G tl c) x stored m₀ P adr pre) own s₁ { s₁ with heap := h', toks := tk } := by
  have hlt := ktn_ltOf hlr
  refine kd_end c [(D, o)] h0 F N (fun p hp => ?_) (fun p hp => hrest p (List.mem_append_right _ (List.mem_append_right _ hp))) hadr (fun q hq b hb' => ?_) (fun q hq p hp' => ?_) hk hr ⟨_, rfl, hf⟩ hp
  · rcases List.mem_append.mp hp with hp | hp
    · rw [List.mem_singleton.mp hp]; exact h1
    · rcases List.mem_append.mp hp with hp | hp
      · exact hrest p (List.mem_append_left _ hp)
      · rcases List.mem_cons.mp hp with rfl | hp
        · exact h2
        · exact hrest p (List.mem_append_right _ (List.mem_append_left _ hp))
  · rw [List.mem_singleton.mp hq]
    rw [← hadr] at hb'
    rcases List.mem_cons.mp hb' with rfl | hb'
    · exact Nat.ne_of_lt hlo
    · obtain ⟨p, hp', rfl⟩ := List.mem_map.mp hb'
      exact Nat.ne_of_lt (hlt p (List.mem_append_left _ hp'))
  · rw [List.mem_singleton.mp hq]
    exact Nat.ne_of_lt (hlt p (List.mem_append_right _ (List.mem_append_right _ hp')))
/-- .. a turn that made nothing -/
theorem out_end0 (c : σ)
    (h0 : KdSep own tl adr) (F : Fr h₀ L h' m') (N : News h₀ L h' news') (h1 : (out, listOf (fv c).toArray (fn c)) ∈ news') (hrest : ∀ p ∈ cst ++ (tl ++ own), p ∈ news') (hadr : out :: cst.map (·.1) = adr)
    (hk : ∀ p ∈ ps c, m' p.1 = some p.2) (hr : ∀ z, z ≠ x → (∀ p ∈ ps c, z ≠ p.1) → stored.contains z = false → m' z = m₀ z) (hf : G tl c) (hp : P pre c) :
    InvEndG h₀ L (KdS (fun c => [(out, listOf (fv c).toArray (fn c))]) cst ps (fun nx c => ∃ tl, nx = cst ++ tl ∧ G tl c) x stored m₀ P adr pre) own s₁ { s₁ with heap := h', toks := tk } := by
  refine kd_end c [] h0 F N (fun p hp => ?_) (fun p hp => hrest p (List.mem_append_right _ (List.mem_append_right _ hp))) hadr (fun q hq => nomatch hq) (fun q hq => nomatch hq) hk hr ⟨_, rfl, hf⟩ hp
  rcases List.mem_append.mp hp with hp | hp
  · rw [List.mem_singleton.mp hp]; exact h1
  · rcases List.mem_append.mp hp with hp | hp
    · exact hrest p (List.mem_append_left _ hp)
    · exact hrest p (List.mem_append_right _ (List.mem_append_left _ hp))
/-- the end of a turn that changes one object and makes nothing -/
theorem obj_end0 {fo : σ → Obj} (c : σ)
    (h0 : KdSep own tl adr) (F : Fr h₀ L h' m') (N : News h₀ L h' news') (h1 : (out, fo c) ∈ news') (hrest : ∀ p ∈ cst ++ (tl ++ own), p ∈ news') (hadr : out :: cst.map (·.1) = adr)
    (hk : ∀ p ∈ ps c, m' p.1 = some p.2) (hr : ∀ z, z ≠ x → (∀ p ∈ ps c, z ≠ p.1) → stored.contains z = false → m' z = m₀ z) (hf : G tl c) (hp : P pre c) :
    InvEndG h₀ L (KdS (fun c => [(out, fo c)]) cst ps (fun nx c => ∃ tl, nx = cst ++ tl ∧ G tl c) x stored m₀ P adr pre) own s₁ { s₁ with heap := h', toks := tk } := by
  refine kd_end c [] h0 F N (fun p hp => ?_) (fun p hp => hrest p (List.mem_append_right _ (List.mem_append_right _ hp))) hadr (fun q hq => nomatch hq) (fun q hq => nomatch hq) hk hr ⟨_, rfl, hf⟩ hp
  rcases List.mem_append.mp hp with hp | hp
  · rw [List.mem_singleton.mp hp]; exact h1
  · rcases List.mem_append.mp hp with hp | hp
    · exact hrest p (List.mem_append_left _ hp)
    · exact hrest p (List.mem_append_right _ (List.mem_append_left _ hp))
/-- the end of a turn that changes nothing that stood and made tl2 -/
theorem ret_end (c : σ) {tl2 : List (Addr × Obj)}
    (h0 : KdSep own tl adr) (F : Fr h₀ L h' m') (N : News h₀ L h' news') (hrest : ∀ p ∈ cst ++ (tl ++ own), p ∈ news') (h2 : ∀ p ∈ tl2, p ∈ news') (hadr : cst.map (·.1) = adr)
    (off : ∀ q ∈ cst ++ (tl ++ own), ∀ p ∈ tl2, p.1 ≠ q.1) (hk : ∀ p ∈ ps c, m' p.1 = some p.2) (hr : ∀ z, z ≠ x → (∀ p ∈ ps c, z ≠ p.1) → stored.contains z = false → m' z = m₀ z) (hf : G (tl2 ++ tl) c) (hp : P pre c) :
    InvEndG h₀ L (KdS (fun _ => []) cst ps (fun nx c => ∃ tl, nx = cst ++ tl ∧ G tl c) x stored m₀ P adr pre) own s₁ { s₁ with heap := h', toks := tk } := by
  refine kd_end c tl2 h0 F N (fun p hp => ?_) (fun p hp => hrest p (List.mem_append_right _ (List.mem_append_right _ hp))) hadr (fun q hq b hb' => ?_) (fun q hq p hp' => ?_) hk hr ⟨_, rfl, hf⟩ hp
  · rw [List.nil_append] at hp
    rcases List.mem_append.mp hp with hp | hp
    · exact hrest p (List.mem_append_left _ hp)
    · rcases List.mem_append.mp hp with hp | hp
      · exact h2 p hp
      · exact hrest p (List.mem_append_right _ (List.mem_append_left _ hp))
  · rw [← hadr] at hb'
    obtain ⟨p, hp', rfl⟩ := List.mem_map.mp hb'
    exact Ne.symm (off p (List.mem_append_left _ hp') q hq)
  · exact Ne.symm (off p (List.mem_append_right _ (List.mem_append_right _ hp')) q hq)
/-- the end of a turn that fills one list and made tl2 (the library's Facts) -/
theorem out_endN {Facts : List (Addr × Obj) → σ → Prop} (c : σ) {tl2 : List (Addr × Obj)}
    (h0 : KdSep own tl adr) (F : Fr h₀ L h' m') (N : News h₀ L h' news') (h1 : (out, listOf (fv c).toArray (fn c)) ∈ news') (hrest : ∀ p ∈ cst ++ (tl ++ own), p ∈ news') (h2 : ∀ p ∈ tl2, p ∈ news') (hadr : out :: cst.map (·.1) = adr)
    (offo : ∀ p ∈ tl2, p.1 ≠ out) (off : ∀ q ∈ cst ++ (tl ++ own), ∀ p ∈ tl2, p.1 ≠ q.1) (hk : ∀ p ∈ ps c, m' p.1 = some p.2) (hr : ∀ z, z ≠ x → (∀ p ∈ ps c, z ≠ p.1) → stored.contains z = false → m' z = m₀ z) (hf : Facts (cst ++ (tl2 ++ tl)) c) (hp : P pre c) :
    InvEndG h₀ L (KdS (fun c => [(out, listOf (fv c).toArray (fn c))]) cst ps Facts x stored m₀ P adr pre) own s₁ { s₁ with heap := h', toks := tk } := by
  refine kd_end c tl2 h0 F N (fun p hp => ?_) (fun p hp => hrest p (List.mem_append_right _ (List.mem_append_right _ hp))) hadr (fun q hq b hb' => ?_) (fun q hq p hp' => ?_) hk hr hf hp
  · rcases List.mem_append.mp hp with hp | hp
    · rw [List.mem_singleton.mp hp]; exact h1
    · rcases List.mem_append.mp hp with hp | hp
      · exact hrest p (List.mem_append_left _ hp)
      · rcases List.mem_append.mp hp with hp | hp
        · exact h2 p hp
        · exact hrest p (List.mem_append_right _ (List.mem_append_left _ hp))
  · rw [← hadr] at hb'
    rcases List.mem_cons.mp hb' with rfl | hb'
    · exact Ne.symm (offo q hq)
    · obtain ⟨p, hp', rfl⟩ := List.mem_map.mp hb'
      exact Ne.symm (off p (List.mem_append_left _ hp') q hq)
  · exact Ne.symm (off p (List.mem_append_right _ (List.mem_append_right _ hp')) q hq)
end
end Mine
end

section
open PySem PySem.W PyProof.Rows PySem.Calls PySem.Spec
set_option maxHeartbeats 8000000
namespace Mine
local macro_rules | `(tactic| k_all) => `(tactic| assumption)
theorem step_snoc {k v : Int} {ou ou' : List (Int × Int)} {b b' : Bool} {qs : List (Int × Int)} {q : Int × Int} (hf : (ou, b) = qs.foldl (stepPut k v) ([], false)) (h : stepPut k v (ou, b) q = (ou', b')) : (ou', b') = (qs ++ [q]).foldl (stepPut k v) ([], false) := by
  rw [List.foldl_append, ← hf]; exact h.symm
theorem step_eq {k v : Int} {ou : List (Int × Int)} {b : Bool} {q : Int × Int} (h : q.1 = k) : stepPut k v (ou, b) q = (ou ++ [(k, v)], true) := by simp [stepPut, h]
theorem step_ins {k v : Int} {ou : List (Int × Int)} {b : Bool} {q : Int × Int} (h : q.1 ≠ k) (hb : b = false) (hl : k < q.1) : stepPut k v (ou, b) q = (ou ++ [(k, v)] ++ [q], true) := by subst hb; simp [stepPut, h, hl]
theorem step_keep {k v : Int} {ou : List (Int × Int)} {b : Bool} {q : Int × Int} (h : q.1 ≠ k) (hb : b = true ∨ ¬ k < q.1) : stepPut k v (ou, b) q = (ou ++ [q], b) := by
  rcases hb with hb | hb
  · subst hb; simp [stepPut, h]
  · simp [stepPut, h, hb]
theorem fold_len {k v : Int} : ∀ (qs : List (Int × Int)) (st : List (Int × Int) × Bool), (qs.foldl (stepPut k v) st).1.length ≤ st.1.length + 2 * qs.length
  | [], st => by simp
  | q :: qs, st => by
    have h := fold_len (k := k) (v := v) qs (stepPut k v st q)
    have h2 : (stepPut k v st q).1.length ≤ st.1.length + 2 := by
      unfold stepPut
      split
      · simp
      · split <;> simp
    rw [List.foldl_cons, List.length_cons]
    omega
theorem put_ct (w : World) (mean : ExcName → Option Value) (mg mb : Str → Option Value) :
    Says (δ := List (Int × Int) × Int × Int) PySem.Challenge.rw_k16_0032.row.prog w (hd.heap_39 w.params) hd.view_39 (looseW hd.view_39 []) mean mg mb 4 21
      (fun _ news vs d => ∃ v t1 t2, vs = [v, .int d.2.1 t1, .int d.2.2 t2] ∧ DatIn news v (.list (d.1.map pairD)) ∧ d.1.length ≤ 50)
      (fun nw tl r d => DatIn (nw ++ tl) r (.list ((mput d.1 d.2.1 d.2.2).map pairD))) := by
  k_fill
  w_top off
  unfold Says
  intro dp un gd cn cs a ccd cl outer A₀ base h₀ L m news nw s vs d Q E B F X N T hk hsub hPre hd hu hret
  obtain ⟨v0, t1, t2, rfl, hv0, hlen⟩ := hPre
  obtain ⟨pl, ws, n, rfl, hpl, hws⟩ := list_inv hv0
  obtain ⟨ps, k, v⟩ := d
  dsimp only at *
  refine wpAny_call ?_
  k_dflt ktr_enter
  k_steps
  (rename Fr _ _ _ _ => lF'); (with_unfolding_all refine' For_invVF lF' ?k1 ?k2 ?_); (case k1 => exact rfl); (case k2 => exact rfl)
  walk1
  (try dsimp only)
  rename (∀ p : Addr × Obj, p ∈ news → p.1 < _) => hlt
  rename News _ _ _ _ => lN
  rename_i out _ _ _
  refine lp_list (σ := List Value × Nat × List (Int × Int) × Bool) (fun c => [(out, listOf c.1.toArray c.2.1)]) news (fun c => [(Str.ofString "placed", .bool c.2.2.2)])
    (fun tl c => DatAll (nw ++ tl) c.1 (c.2.2.1.map pairD)) [] (fun i c => (c.2.2.1, c.2.2.2) = (ps.take i).foldl (stepPut k v) ([], false)) (out :: news.map (·.1))
    ([], 0, [], false) rfl (hsub _ hpl) lF' lN (by simp) (fun _ => by simp) .nil (by simp) rfl ?_ ?_
  · rintro ⟨vs, nv, ou, b⟩ tl i v0 u h tk own hi hsep hoff hfa hfold F1 N1
    obtain ⟨q, hq, hD⟩ := all_get hws hi
    obtain ⟨qa, qn, qt, qu, rfl, hqm⟩ := pair_inv hD
    have hsn := take_snoc hq
    dsimp only at *
    clear lF' lN
    obtain ⟨rest, hrest⟩ : ∃ rest, rest = news ++ (tl ++ own) := ⟨_, rfl⟩
    have hne : ∀ p ∈ rest, p.1 ≠ out := by
      intro p hp
      rw [hrest] at hp
      rcases List.mem_append.mp hp with hp | hp
      · exact Nat.ne_of_lt (hlt p hp)
      · exact hoff p hp out (by simp)
    have hqr : (qa, ({ cls := .type "tuple", data := .seq #[.int q.1 qt, .int q.2 qu] qn } : Obj)) ∈ rest := by
      rw [hrest]; exact List.mem_append_left _ (hsub _ hqm)
    have hqo : @Ne Nat qa out := hne _ hqr
    have N2 := kst_newsOf (l' := (out, listOf vs.toArray nv) :: (qa, ({ cls := .type "tuple", data := .seq #[.int q.1 qt, .int q.2 qu] qn } : Obj)) :: rest) N1 (by
      intro p hp
      rw [List.singleton_append, ← hrest]
      rcases List.mem_cons.mp hp with rfl | hp
      · exact .head _
      · rcases List.mem_cons.mp hp with rfl | hp
        · exact .tail _ hqr
        · exact .tail _ hp)
    clear N1
    have hsz : vs.length ≤ 1000 := by
      have e1 := hfa.length
      have e2 := fold_len (k := k) (v := v) (ps.take i) ([], false)
      have e3 := List.length_take_le i ps
      have e4 : (ps.take i).length ≤ ps.length := by rw [List.length_take]; omega
      rw [← hfold] at e2
      simp only [List.length_map, List.length_nil] at e1 e2
      omega
    k_steps
    · rename (_ ∧ _ ∧ AllLt _ rest) => hl9
      rename News _ _ _ _ => lN
      rename q.1 = k => hqk
      obtain ⟨hl1, hl2, hl3⟩ := hl9
      simp only [List.push_toArray] at lN
      subst hrest
      refine' out_end1 (_, _, ou ++ [(k, v)], true) hsep (by assumption) lN (.tail _ (.head _)) (.head _) (fun p hp => .tail _ (.tail _ (.tail _ hp))) (by rfl) hl1 hl3 (by kst_all) (by intro z h1 h2 h3; simp only [List.forall_mem_cons, List.not_mem_nil, false_implies, implies_true, and_true, ne_eq] at h2; simp only [kstB, h1, h2, if_false, List.contains_nil, Bool.false_eq_true]) ?_ ?_
      · exact snocD hfa sub_new (pair_in mem_new)
      · rw [hsn]; exact step_snoc hfold (step_eq hqk)
    · rename News _ _ _ _ => lN
      simp only [List.push_toArray] at lN
      subst hrest
      refine' out_end0 (_, _, ou ++ [q], b) hsep (by assumption) lN (.head _) (fun p hp => .tail _ (.tail _ hp)) (by rfl) (by kst_all) (by intro z h1 h2 h3; simp only [List.forall_mem_cons, List.not_mem_nil, false_implies, implies_true, and_true, ne_eq] at h2; simp only [kstB, h1, h2, if_false, List.contains_nil, Bool.false_eq_true]) ?_ ?_
      · exact snocD hfa (fun _ h => h) (hD.mono sub_left)
      · rw [hsn]; exact step_snoc hfold (step_keep (by assumption) (.inl (by assumption)))
    · rename (_ ∧ _ ∧ AllLt _ rest) => hl9
      rename News _ _ _ _ => lN
      obtain ⟨hl1, hl2, hl3⟩ := hl9
      simp only [List.push_toArray] at lN
      subst hrest
      refine' out_end1 (_, _, ou ++ [(k, v)] ++ [q], true) hsep (by assumption) lN (.tail _ (.head _)) (.head _) (fun p hp => .tail _ (.tail _ (.tail _ hp))) (by rfl) hl1 hl3 (by kst_all) (by intro z h1 h2 h3; simp only [List.forall_mem_cons, List.not_mem_nil, false_implies, implies_true, and_true, ne_eq] at h2; simp only [kstB, h1, h2, if_false, List.contains_nil, Bool.false_eq_true]) ?_ ?_
      · exact snocD (snocD hfa sub_new (pair_in mem_new)) (fun _ h => h) (hD.mono sub_left)
      · rw [hsn]; exact step_snoc hfold (step_ins (by assumption) (by assumption) (by assumption))
    · rename News _ _ _ _ => lN
      simp only [List.push_toArray] at lN
      subst hrest
      refine' out_end0 (_, _, ou ++ [q], b) hsep (by assumption) lN (.head _) (fun p hp => .tail _ (.tail _ hp)) (by rfl) (by kst_all) (by intro z h1 h2 h3; simp only [List.forall_mem_cons, List.not_mem_nil, false_implies, implies_true, and_true, ne_eq] at h2; simp only [kstB, h1, h2, if_false, List.contains_nil, Bool.false_eq_true]) ?_ ?_
      · exact snocD hfa (fun _ h => h) (hD.mono sub_left)
      · rw [hsn]; exact step_snoc hfold (step_keep (by assumption) (.inr (by omega)))
  · rintro ⟨vs, nv, ou, b⟩ tl u h tk hoff hfa hfold F1 N1
    clear lF' lN
    have hwl := hws.length
    rw [List.length_map] at hwl
    rw [hwl, List.take_length] at hfold
    dsimp only at *
    obtain ⟨rest, hrest⟩ : ∃ rest, rest = news ++ tl := ⟨_, rfl⟩
    have hne : ∀ p ∈ rest, p.1 ≠ out := by
      intro p hp
      rw [hrest] at hp
      rcases List.mem_append.mp hp with hp | hp
      · exact Nat.ne_of_lt (hlt p hp)
      · exact hoff p hp out (by simp)
    have hsz : vs.length ≤ 1000 := by
      have e1 := hfa.length
      have e2 := fold_len (k := k) (v := v) ps ([], false)
      rw [← hfold] at e2
      simp only [List.length_map, List.length_nil] at e1 e2
      omega
    rw [List.singleton_append, ← hrest] at N1
    k_steps
    · rename News h₀ _ _ _ => lN
      rename b = true => hb
      subst hrest hb
      refine hret _ ((out, listOf vs.toArray nv) :: tl) _ _ (by assumption) (kst_newsOf lN pull1) (off_cons hlt (off_of hoff)) ?_
      refine .list mem_new ?_
      have e : mput ps k v = ou := by unfold mput; rw [← hfold]; rfl
      rw [e]
      exact hfa.mono sub_new
    · rename News h₀ _ _ _ => lN
      rename b = false => hb
      rename (_ ∧ AllLt _ rest) => hl9
      obtain ⟨hl1, hl2⟩ := hl9
      subst hrest hb
      simp only [List.push_toArray] at lN
      refine hret _ (_ :: (out, _) :: tl) _ _ (by assumption) (kst_newsOf lN pull2) (off_cons (fun q hq => ktn_ltOf hl2 q (List.mem_append_left _ hq)) (off_cons hlt (off_of hoff))) ?_
      refine .list (List.mem_append_right _ (.tail _ (.head _))) ?_
      have e : mput ps k v = ou ++ [(k, v)] := by unfold mput; rw [← hfold]; rfl
      rw [e]
      exact snocD (hfa.mono sub_new) sub_new (pair_in mem_new)
end Mine
end

section
open PySem PySem.W PyProof.Rows PySem.Calls PySem.Spec
set_option maxHeartbeats 8000000
namespace Mine
local macro_rules | `(tactic| k_all) => `(tactic| assumption)

local macro_rules | `(tactic| ktr_enter) => `(tactic| (refine' code_defC ?k1 ?k2 ?k3 ?k4 ?k5 ?kA ?kF ?kK ?k6 ?k7 ?k8 ?k9 ?kB ?kD ?_ ?c2 ?c3 ?c4; (case kA => exact rfl); (case kF => exact rfl); (case kK => assumption); (case k1 => k_asm); (case k2 => k_asm); (case k3 => k_asm); (case k4 => k_asm); (case k5 => k_asm); (case k6 => k_is); (case k7 => k_is); (case k8 => ktr_room); (case k9 => exact BindsTo.of_eq rfl); (case kB => exact rfl); (case kD => decide +kernel); (case c2 => exact rfl); (case c3 => exact rfl); (case c4 => exact rfl); k_whole; intro g' L' h' tk' cells' FG' F' N' Y' B' X' T' l1; k_cells Y'; (try simp only [List.cons_append, List.nil_append] at N'); (try dsimp only); (try k_fold)))
theorem del_ct (w : World) (mean : ExcName → Option Value) (mg mb : Str → Option Value) :
    Says (δ := List (Int × Int) × Int) PySem.Challenge.rw_k16_0032.row.prog w (hd.heap_39 w.params) hd.view_39 (looseW hd.view_39 []) mean mg mb 4 26
      (fun _ news vs d => ∃ v t1, vs = [v, .int d.2 t1] ∧ DatIn news v (.list (d.1.map pairD)) ∧ d.1.length ≤ 50)
      (fun nw tl r d => DatIn (nw ++ tl) r (.list ((mdel d.1 d.2).map pairD))) := by
  k_fill
  w_top off
  unfold Says
  intro dp un gd cn cs a ccd cl outer A₀ base h₀ L m news nw s vs d Q E B F X N T hk hsub hPre hd hu hret
  obtain ⟨v0, t1, rfl, hv0, hlen⟩ := hPre
  obtain ⟨pl, ws, n, rfl, hpl, hws⟩ := list_inv hv0
  obtain ⟨ps, k⟩ := d
  dsimp only at *
  have hwl := hws.length
  rw [List.length_map] at hwl
  have hpn := hsub _ hpl
  refine wpAny_call ?_
  k_dflt ktr_enter
  rename News _ _ _ _ => lN
  rename (∀ p : Addr × Obj, p ∈ news → p.1 < _) => hlt
  rename Obj => oc
  rename (Obj.data _ = Data.cell _) => hcell
  rename_i g1 L1 h1 tk1 FG1 F1 B1 X1 T1
  replace hcell : oc.data = .cell (some (.int k t1)) := hcell
  walk1
  walk1
  k_dflt (refine LCt.ListComp_T (F₀ := by k_asm) (by with_unfolding_all rfl) (by decide) (by rfl) (by decide) (by rfl) ?_)
  walk1
  refine LCt.CompSrcT.ledger (by rfl) (by k_asm) (by k_asm) (List.Mem.tail _ hpn) ?_ ?_
  · rw [List.size_toArray, PySem.sizeLine_eq]; omega
  intro g'
  refine comp_inv (fun i ys nx => nx = (L1 + 1, oc) :: news ∧ DatAll nw ys ((mdel (ps.take i) k).map pairD)) ⟨rfl, .nil⟩ ?_ ?_
  · rintro i v I oI C oC D m₂ ys nx h tk E' hi hv ⟨rfl, hys⟩ hC hx F2 N2 off ne
    obtain ⟨q, hq, hD'⟩ := all_get hws (by simpa using hv)
    have ht : mdel (ps.take (i + 1)) k = mdel (ps.take i) k ++ (if decide (q.1 ≠ k) = true then [q] else []) := by
      unfold mdel
      rw [take_snoc hq, List.filter_append]
      simp [List.filter_cons]
    obtain ⟨qa, qn, qt, qu, rfl, hqm⟩ := pair_inv hD'
    have hqn := hsub _ hqm
    have N3 := kst_newsOf (l' := (I, oI) :: (C, oC) :: (D, LCg.lst ys) :: (L1 + 1, oc) :: (qa, ({ cls := .type "tuple", data := .seq #[.int q.1 qt, .int q.2 qu] qn } : Obj)) :: news) N2 (by
      intro p hp
      simp only [List.mem_cons] at hp ⊢
      rcases hp with hp | hp | hp | hp | hp | hp
      · exact .inl hp
      · exact .inr (.inl hp)
      · exact .inr (.inr (.inl hp))
      · exact .inr (.inr (.inr (.inl hp)))
      · subst hp; exact .inr (.inr (.inr (.inr hqn)))
      · exact .inr (.inr (.inr (.inr hp))))
    clear N2
    k_steps
    · refine LCg.CompEnd.intro (by assumption) N3 ((L1 + 1, oc) :: news) ?_ off (.inr ⟨_, .tail _ hpn, rfl, _, rfl⟩) ⟨rfl, ?_⟩
      · exact fun p hp => (List.mem_cons.mp hp).elim (fun e => e ▸ .head _) fun hp => .tail _ ((List.mem_cons.mp hp).elim (fun e => e ▸ .head _) fun hp => .tail _ ((List.mem_cons.mp hp).elim (fun e => e ▸ .head _) fun hp => .tail _ ((List.mem_cons.mp hp).elim (fun e => e ▸ .head _) fun hp => .tail _ (.tail _ hp))))
      · rw [ht, if_pos (decide_eq_true (by assumption))]
        exact snocD hys (fun _ h => h) hD'
    · refine LCg.CompEnd.intro (by assumption) N3 ((L1 + 1, oc) :: news) ?_ off (.inr ⟨_, .tail _ hpn, rfl, _, rfl⟩) ⟨rfl, ?_⟩
      · exact fun p hp => (List.mem_cons.mp hp).elim (fun e => e ▸ .head _) fun hp => .tail _ ((List.mem_cons.mp hp).elim (fun e => e ▸ .head _) fun hp => .tail _ ((List.mem_cons.mp hp).elim (fun e => e ▸ .head _) fun hp => .tail _ ((List.mem_cons.mp hp).elim (fun e => e ▸ .head _) fun hp => .tail _ (.tail _ hp))))
      · rw [ht, if_neg (by simp; assumption), List.append_nil]
        exact hys
  · rintro ys nx ⟨rfl, hys⟩
    intro D h9 tk9 F9 N9 off9
    clear lN F1
    (try dsimp only)
    k_steps
    rename News h₀ _ _ _ => lN
    refine hret _ [(D, LCg.lst ys)] _ _ (by assumption) (kst_newsOf lN fun p hp => ?_) (fun q hq p hp => ?_) ?_
    · rcases List.mem_cons.mp (front1 p hp) with rfl | hp
      · exact .head _
      · exact .tail _ (.tail _ hp)
    · rw [List.mem_singleton.mp hp]
      exact Ne.symm (off1_mem off9 q (.tail _ hq))
    · have e : mdel (ps.take ws.toArray.size) k = mdel ps k := by
        rw [List.size_toArray, hwl, List.take_length]
      rw [e] at hys
      exact .list (List.mem_append_right _ (.head _)) (hys.mono sub_left)
end Mine
end

section
open PySem PySem.W PyProof.Rows PySem.Calls PySem.Spec
set_option maxHeartbeats 8000000
namespace Mine
abbrev deedD (d : Deed) : Dat := .tuple [.str (if d.put then Str.ofString "put" else Str.ofString "del"), .int d.key, .int d.val]
theorem deed_inv {nw : List (Addr × Obj)} {v : Value} {q : Deed} (h : DatIn nw v (deedD q)) :
    ∃ a n t u t', v = .ref a ∧ (a, ({ cls := .type "tuple", data := .seq #[.str (if q.put then Str.ofString "put" else Str.ofString "del") t', .int q.key t, .int q.val u] n } : Obj)) ∈ nw := by
  cases h with
  | tuple hm r =>
    cases r with
    | cons h1 r =>
      cases h1
      cases r with
      | cons h2 r =>
        cases h2
        cases r with
        | cons h3 r =>
          cases h3
          cases r
          exact ⟨_, _, _, _, _, rfl, hm⟩
theorem mput_len {ps : List (Int × Int)} (h : Up ps) (k v : Int) : (mput ps k v).length ≤ ps.length + 1 := by
  rw [mput_eq h, List.length_append, List.length_cons]
  have e : ∀ l : List (Int × Int), (l.filter fun p => decide (p.1 < k)).length + (l.filter fun p => decide (k < p.1)).length ≤ l.length := by
    intro l
    induction l with
    | nil => simp
    | cons p r ih =>
      rw [List.filter_cons, List.filter_cons]
      by_cases h1 : p.1 < k
      · have h2 : ¬ k < p.1 := by omega
        simp only [h1, h2, decide_true, decide_false, if_true, List.length_cons, Bool.false_eq_true, if_false]
        omega
      · simp only [h1, decide_false, Bool.false_eq_true, if_false, List.length_cons]
        split
        · rw [List.length_cons]; omega
        · omega
  have := e ps
  omega
theorem mrun_len : ∀ ds : List Deed, (mrun ds).length ≤ ds.length := by
  refine snoc_induction (by simp [mrun]) ?_
  intro l a ih
  rw [mrun_snoc, List.length_append, List.length_singleton]
  unfold mstep
  split
  · have := mput_len (mrun_spec l).1 a.key a.val
    omega
  · have := List.length_filter_le (fun p : Int × Int => decide (p.1 ≠ a.key)) (mrun l)
    unfold mdel
    omega
theorem run_ct (w : World) (mean : ExcName → Option Value) (mg mb : Str → Option Value) :
    Says (δ := List Deed) PySem.Challenge.rw_k16_0032.row.prog w (hd.heap_39 w.params) hd.view_39 (looseW hd.view_39 []) mean mg mb 8 33
      (fun _ news vs d => ∃ v, vs = [v] ∧ DatIn news v (.list (d.map deedD)) ∧ d.length ≤ 10)
      (fun _ tl r d => DatIn tl r (.list ((mrun d).map pairD))) := by
  k_fill
  w_top off
  unfold Says
  intro dp un gd cn cs a ccd cl outer A₀ base h₀ L m news nw s vs ds Q E B F X N T hk hsub hPre hd hu hret
  obtain ⟨v0, rfl, hv0, hlen⟩ := hPre
  obtain ⟨ol, ws, n, rfl, hol, hws⟩ := list_inv hv0
  dsimp only at *
  have hwl := hws.length
  rw [List.length_map] at hwl
  refine wpAny_call ?_
  k_dflt ktr_enter
  k_steps
  (rename Fr _ _ _ _ => lF'); (with_unfolding_all refine' For_invVF lF' ?k1 ?k2 ?_); (case k1 => exact rfl); (case k2 => exact rfl)
  walk1
  (try dsimp only)
  rename (∀ p : Addr × Obj, p ∈ news → p.1 < _) => hlt
  rename News _ _ _ _ => lN
  rename_i p0 _ _
  refine lp_list (σ := Value × List (Int × Int)) (fun c => []) ((p0, listOf #[] 0) :: news) (fun c => [(Str.ofString "pairs", c.1)])
    (fun tl c => DatIn ((p0, listOf #[] 0) :: tl) c.1 (.list (c.2.map pairD))) [] (fun i c => c.2 = mrun (ds.take i)) (p0 :: news.map (·.1))
    (.ref p0, []) rfl (.tail _ (hsub _ hol)) lF' lN (by simp) (fun _ => by simp) (.list (.head _) .nil) (by simp) rfl ?_ ?_
  · rintro ⟨pv, ps⟩ tl i v0 u h tk own hi hsep hoff hfa hps F1 N1
    obtain ⟨q, hq, hD⟩ := all_get hws hi
    obtain ⟨qa, qn, qt, qu, qs, rfl, hqm⟩ := deed_inv hD
    have hsn := take_snoc hq
    dsimp only at *
    clear lF' lN
    obtain ⟨rest, hrest⟩ : ∃ rest, rest = ((p0, listOf #[] 0) :: news) ++ (tl ++ own) := ⟨_, rfl⟩
    rw [List.nil_append, ← hrest] at N1
    have hnr : ∀ p ∈ nw, p ∈ rest := fun p hp => by rw [hrest]; exact List.mem_append_left _ (.tail _ (hsub p hp))
    have hdr : ∀ p ∈ (p0, listOf #[] 0) :: tl, p ∈ rest := fun p hp => by
      rw [hrest]
      rcases List.mem_cons.mp hp with rfl | hp
      · exact List.mem_append_left _ (.head _)
      · exact List.mem_append_right _ (List.mem_append_left _ hp)
    have hqr := hnr _ hqm
    have hrl : (mrun (ds.take i)).length ≤ 50 := by
      have e1 := mrun_len (ds.take i)
      have e2 := List.length_take_le i ds
      have e3 : (ds.take i).length ≤ ds.length := by rw [List.length_take]; omega
      omega
    cases hput : q.put with
    | true =>
      simp only [hput, if_true] at hqr
      have N2 := kst_newsOf (l' := (qa, ({ cls := .type "tuple", data := .seq #[.str (Str.ofString "put") qs, .int q.key qt, .int q.val qu] qn } : Obj)) :: rest) N1 (fun p hp => (List.mem_cons.mp hp).elim (fun e => e ▸ hqr) id)
      clear N1
      k_steps
      refine' says_use (put_ct w mean mg mb) (mrun (ds.take i), q.key, q.val) ((p0, listOf #[] 0) :: tl) ?k1 ?k2 ?k3 ?k4 ?k5 ?k6 ?k7 ?k8 ?k9 ?k10 ?_
      (case k1 => k_asm)
      (case k2 => k_asm)
      (case k3 => k_asm)
      (case k4 => k_asm)
      (case k5 => k_asm)
      (case k6 => exact rfl)
      (case k7 => exact fun p hp => .tail _ (hdr p hp))
      (case k8 => exact ⟨_, _, _, rfl, by rw [← hps]; exact hfa, hrl⟩)
      (case k9 => (simp only [depth_deeper]; omega))
      (case k10 => (simp only [units_deeper]; omega))
      intro r9 tl9 h9 tk9 F9 N9 off9 ho9
      (try dsimp only)
      k_steps
      rename News _ _ _ _ => lN
      subst hrest
      refine' ret_end (r9, mrun (ds.take (i + 1))) (tl2 := tl9) hsep (by assumption) lN (fun p hp => List.mem_append_left _ (.tail _ hp)) (fun p hp => List.mem_append_right _ hp) (by rfl) (fun q hq p hp => off9 q (.tail _ hq) p hp) (by kst_all) (by intro z h1 h2 h3; simp only [List.forall_mem_cons, List.not_mem_nil, false_implies, implies_true, and_true, ne_eq] at h2; simp only [kstB, h1, h2, if_false, List.contains_nil, Bool.false_eq_true]) ?_ rfl
      rw [hsn, mrun_snoc, mstep, hput]
      exact DatIn.mono (mid_of (a := [(p0, listOf #[] 0)])) ho9
    | false =>
      simp only [hput, if_false, Bool.false_eq_true] at hqr
      have N2 := kst_newsOf (l' := (qa, ({ cls := .type "tuple", data := .seq #[.str (Str.ofString "del") qs, .int q.key qt, .int q.val qu] qn } : Obj)) :: rest) N1 (fun p hp => (List.mem_cons.mp hp).elim (fun e => e ▸ hqr) id)
      clear N1
      k_steps
      refine' says_use (del_ct w mean mg mb) (mrun (ds.take i), q.key) ((p0, listOf #[] 0) :: tl) ?k1 ?k2 ?k3 ?k4 ?k5 ?k6 ?k7 ?k8 ?k9 ?k10 ?_
      (case k1 => k_asm)
      (case k2 => k_asm)
      (case k3 => k_asm)
      (case k4 => k_asm)
      (case k5 => k_asm)
      (case k6 => exact rfl)
      (case k7 => exact fun p hp => .tail _ (hdr p hp))
      (case k8 => exact ⟨_, _, rfl, by rw [← hps]; exact hfa, hrl⟩)
      (case k9 => (simp only [depth_deeper]; omega))
      (case k10 => (simp only [units_deeper]; omega))
      intro r9 tl9 h9 tk9 F9 N9 off9 ho9
      (try dsimp only)
      k_steps
      rename News _ _ _ _ => lN
      subst hrest
      refine' ret_end (r9, mrun (ds.take (i + 1))) (tl2 := tl9) hsep (by assumption) lN (fun p hp => List.mem_append_left _ (.tail _ hp)) (fun p hp => List.mem_append_right _ hp) (by rfl) (fun q hq p hp => off9 q (.tail _ hq) p hp) (by kst_all) (by intro z h1 h2 h3; simp only [List.forall_mem_cons, List.not_mem_nil, false_implies, implies_true, and_true, ne_eq] at h2; simp only [kstB, h1, h2, if_false, List.contains_nil, Bool.false_eq_true]) ?_ rfl
      rw [hsn, mrun_snoc, mstep, hput]
      exact DatIn.mono (mid_of (a := [(p0, listOf #[] 0)])) ho9
  · rintro ⟨pv, ps⟩ tl u h tk hoff hfa hps F1 N1
    clear lF' lN
    rw [hwl, List.take_length] at hps
    dsimp only at *
    rw [List.nil_append] at N1
    k_steps
    rename News h₀ _ _ _ => lN
    subst hps
    refine hret _ ((p0, listOf #[] 0) :: tl) _ _ (by assumption) (kst_newsOf lN pull1) (off_cons hlt (off_of hoff)) hfa
end Mine
end

section
open PySem PySem.W PyProof.Rows PySem.Calls PySem.Spec
set_option maxHeartbeats 8000000
namespace Mine
section
variable {prog : Program} {w : World} {A : Around} {E : Value → Shared → Prop} {s : Shared} {h₀ : Heap} {L D : Addr} {m : Str → Option Value} {rest : List (Addr × Obj)} {vs : List Value} {ns : List Int} {n : Nat} {Q : Value → Shared → Prop}
theorem srt (F : Fr h₀ L s.heap m) (N : News h₀ L s.heap ((D, listOf vs.toArray n) :: rest)) (hne : ∀ p ∈ rest, p.1 ≠ D) (hI : IntsAre vs ns) (h64 : vs.length < 64)
    (h : ∀ (vs' : List Value) ns' n' h', Fr h₀ L h' m → News h₀ L h' ((D, listOf vs'.toArray n') :: rest) → IntsAre vs' ns' → ns'.Perm ns → ns'.Pairwise (· ≤ ·) → Q .none { s with heap := h' }) :
    wpAny (model prog w) A (call (.builtin "list.sort") [.ref D]) Q E s := by
  have z := N (D, listOf vs.toArray n) (.head _)
  refine wpAny_call_entry PyProof.Rows.slot_list_sort ⟨_, z.1, rfl⟩ PyProof.Rows.entry_list_sort (list_sort_tree (n := n) (vs := vs) z.1 hI h64 fun out ns' hI' hp hP => ⟨.none, rfl, ?_⟩) (PyProof.Rows.args_list_sort _)
  have F1 : Fr h₀ L (s.heap.update D (Obj.mapSeq fun _ => (#[] : Array Value))) m := F.change (Heap.SameBut.update ..) z.2.1 z.2.2
  have N1 := ki_turn (pre := []) (post := rest) (fun _ => (#[] : Array Value)) (its' := #[]) N (fun _ h => nomatch h) hne rfl rfl
  have N2 := News.grown N1 fun _ _ e => Heap.get?_push_of_some (seqObj "tuple" vs.toArray 0) e
  have N3 := News.grown N2 fun _ _ e => Heap.get?_push_of_some (seqObj "list" #[] 0) e
  have N4 := ki_turn (pre := []) (post := rest) (fun _ => out) (its' := out) N3 (fun _ h => nomatch h) hne rfl rfl
  have F4 : Fr h₀ L ((((s.heap.update D (Obj.mapSeq fun _ => (#[] : Array Value))).push (seqObj "tuple" vs.toArray 0)).push (seqObj "list" #[] 0)).update D (Obj.mapSeq fun _ => out)) m :=
    ((F1.push (seqObj "tuple" vs.toArray 0)).push (seqObj "list" #[] 0)).change (Heap.SameBut.update ..) z.2.1 z.2.2
  have e : out.toList.toArray = out := Array.toArray_toList
  exact h out.toList ns' _ _ F4 (by rw [e]; exact N4) hI' hp hP
end
theorem valueAt_stored {kvs : List (Int × Value)} {k : Int} {v : Value} (j : Int) : valueAt (stored kvs k v) j = if j = k then some v else valueAt kvs j := by
  unfold stored
  split
  · rename_i h
    induction kvs with
    | nil => simp at h
    | cons p r ih =>
      rw [List.map_cons]
      unfold valueAt at ih ⊢
      by_cases hp : p.1 = k
      · rw [if_pos hp, List.find?_cons, List.find?_cons]
        by_cases hj : j = k
        · subst hj; simp [hp]
        · have h1 : ¬ p.1 = j := fun e => hj (by rw [← e, hp])
          simp only [h1, decide_false, if_neg hj]
          clear ih h
          induction r with
          | nil => rfl
          | cons q t ih2 =>
            rw [List.map_cons, List.find?_cons, List.find?_cons]
            by_cases hq : q.1 = k
            · rw [if_pos hq]
              have h2 : ¬ q.1 = j := fun e => hj (by rw [← e, hq])
              simp only [h2, decide_false]; exact ih2
            · rw [if_neg hq]
              by_cases h2 : q.1 = j
              · simp [h2]
              · simp only [h2, decide_false]; exact ih2
      · rw [if_neg hp, List.find?_cons, List.find?_cons]
        have h' : (r.any fun kv => decide (kv.1 = k)) = true := by simpa [hp] using h
        by_cases h2 : p.1 = j
        · have hj : ¬ j = k := fun e => hp (by rw [h2, e])
          simp [h2, hj]
        · simp only [h2, decide_false]; exact ih h'
  · rename_i h
    unfold valueAt
    rw [List.find?_append]
    by_cases hj : j = k
    · subst hj
      have e : kvs.find? (fun kv => decide (kv.1 = j)) = none := by
        rw [List.find?_eq_none]
        intro x hx hq
        exact h (List.any_eq_true.mpr ⟨x, hx, hq⟩)
      rw [e]; simp
    · have hk : ¬ k = j := fun e => hj e.symm
      rw [if_neg hj]
      simp [List.find?_cons, hk]
theorem stored_len {kvs : List (Int × Value)} {k : Int} {v : Value} : (stored kvs k v).length ≤ kvs.length + 1 := by
  unfold stored
  split
  · rw [List.length_map]; omega
  · simp
theorem valueAt_some {kvs : List (Int × Value)} {k : Int} : (valueAt kvs k).isSome = true ↔ k ∈ kvs.map (·.1) := by
  unfold valueAt
  rw [Option.isSome_map, List.find?_isSome]
  simp

def LastRel (nw : List (Addr × Obj)) (o : Option Deed) (v : Option Value) : Prop := match o with
  | none => v = none
  | some d => ∃ x, v = some x ∧ DatIn nw x (deedD d)
theorem lastRel_step {nw : List (Addr × Obj)} {ds : List Deed} {i : Nat} {q : Deed} {kvs : List (Int × Value)} {v : Value} (hsn : ds.take (i + 1) = ds.take i ++ [q]) (hkv : ∀ k, LastRel nw (lastOf (ds.take i) k) (valueAt kvs k)) (hD : DatIn nw v (deedD q)) :
    ∀ k, LastRel nw (lastOf (ds.take (i + 1)) k) (valueAt (stored kvs q.key v) k) := by
  intro k
  rw [hsn, lastOf_snoc, valueAt_stored]
  by_cases e : q.key = k
  · rw [if_pos e, if_pos e.symm]; exact ⟨v, rfl, hD⟩
  · rw [if_neg e, if_neg fun h => e h.symm]; exact hkv k
local macro_rules | `(tactic| k_all) => `(tactic| assumption)
local macro_rules | `(tactic| ktr_enter) => `(tactic| (refine' code_defC ?k1 ?k2 ?k3 ?k4 ?k5 ?kA ?kF ?kK ?k6 ?k7 ?k8 ?k9 ?kB ?kD ?_ ?c2 ?c3 ?c4; (case kA => exact rfl); (case kF => exact rfl); (case kK => assumption); (case k1 => k_asm); (case k2 => k_asm); (case k3 => k_asm); (case k4 => k_asm); (case k5 => k_asm); (case k6 => k_is); (case k7 => k_is); (case k8 => ktr_room); (case k9 => exact BindsTo.of_eq rfl); (case kB => exact rfl); (case kD => decide +kernel); (case c2 => exact rfl); (case c3 => exact rfl); (case c4 => exact rfl); k_whole; intro g' L' h' tk' cells' FG' F' N' Y' B' X' T' l1; k_cells Y'; (try simp only [List.cons_append, List.nil_append] at N'); (try dsimp only); (try k_fold)))
local macro_rules | `(tactic| walk_at "subscriptTail Name Name ref int") => `(tactic| ((with_reducible show wpAny _ _ (subscriptTail _ _ (Value.ref _) (Value.int _ _)) _ _ _); k_dflt (refine kda_item (knd := intKind _ _) (by k_asm) (by k_mem) (by assumption) (intKind_is _ _ _ _) (by assumption) ?_)))
theorem comp_endT {h₀ : Heap} {L : Addr} {m : Str → Option Value} {s₁ : Shared} {I C D : Addr} {oI oC oD : Obj} {S : List (Addr × Obj) → Prop} {rest : Value → List (Addr × Obj) → Prop} {y : Value} {h' : Heap} {tk : Nat} {T a b c X : Addr × Obj} {l1 l2 : List (Addr × Obj)}
    (F : Fr h₀ L h' m) (N : News h₀ L h' (T :: (I, oI) :: (C, oC) :: (D, oD) :: a :: b :: c :: X :: (l1 ++ l2))) (hT : ∀ p ∈ (I, oI) :: (C, oC) :: (D, oD) :: a :: b :: c :: X :: (l1 ++ l2), p.1 < T.1)
    (off : LCg.Off3 I C D (a :: b :: c :: (l1 ++ l2))) (hS : S (a :: b :: c :: (l1 ++ (T :: l2)))) (r : rest y (a :: b :: c :: (l1 ++ (T :: l2)))) :
    LCg.CompEnd h₀ L m s₁ I oI C oC D oD S rest y { s₁ with heap := h', toks := tk } := by
  refine LCg.CompEnd.intro F N _ (fun p hp => ?_) (LCg.Off3.of fun p hp => ?_) hS r
  · rcases List.mem_cons.mp hp with rfl | hp
    · exact .tail _ (.head _)
    · rcases List.mem_cons.mp hp with rfl | hp
      · exact .tail _ (.tail _ (.head _))
      · rcases List.mem_cons.mp hp with rfl | hp
        · exact .tail _ (.tail _ (.tail _ (.head _)))
        · rcases List.mem_cons.mp hp with rfl | hp
          · exact .tail _ (.tail _ (.tail _ (.tail _ (.head _))))
          · rcases List.mem_cons.mp hp with rfl | hp
            · exact .tail _ (.tail _ (.tail _ (.tail _ (.tail _ (.head _)))))
            · rcases List.mem_cons.mp hp with rfl | hp
              · exact .tail _ (.tail _ (.tail _ (.tail _ (.tail _ (.tail _ (.head _))))))
              · rcases List.mem_cons.mp (pull1 p hp) with rfl | hp
                · exact .head _
                · exact .tail _ (.tail _ (.tail _ (.tail _ (.tail _ (.tail _ (.tail _ (.tail _ hp)))))))
  · have old : ∀ p ∈ a :: b :: c :: (l1 ++ l2), p.1 ≠ I ∧ p.1 ≠ C ∧ p.1 ≠ D := off.mem
    rcases List.mem_cons.mp hp with rfl | hp
    · exact old _ (.head _)
    · rcases List.mem_cons.mp hp with rfl | hp
      · exact old _ (.tail _ (.head _))
      · rcases List.mem_cons.mp hp with rfl | hp
        · exact old _ (.tail _ (.tail _ (.head _)))
        · rcases List.mem_cons.mp (pull1 p hp) with rfl | hp
          · exact ⟨Nat.ne_of_gt (hT (I, oI) (.head _)), Nat.ne_of_gt (hT (C, oC) (.tail _ (.head _))), Nat.ne_of_gt (hT (D, oD) (.tail _ (.tail _ (.head _))))⟩
          · exact old _ (.tail _ (.tail _ (.tail _ hp)))
theorem due_ct (w : World) (mean : ExcName → Option Value) (mg mb : Str → Option Value) :
    Says (δ := List Deed) PySem.Challenge.rw_k16_0032.row.prog w (hd.heap_39 w.params) hd.view_39 (looseW hd.view_39 []) mean mg mb 8 52
      (fun _ news vs d => ∃ v, vs = [v] ∧ DatIn news v (.list (d.map deedD)) ∧ d.length ≤ 10)
      (fun _ tl r d => DatIn tl r (.list ((mrun d).map pairD))) := by
  k_fill
  w_top off
  unfold Says
  intro dp un gd cn cs a ccd cl outer A₀ base h₀ L m news nw s vs ds Q E B F X N T hk hsub hPre hd hu hret
  obtain ⟨v0, rfl, hv0, hlen⟩ := hPre
  obtain ⟨ol, ws, n, rfl, hol, hws⟩ := list_inv hv0
  dsimp only at *
  have hwl := hws.length
  rw [List.length_map] at hwl
  refine wpAny_call ?_
  k_dflt ktr_enter
  rename News _ _ _ _ => lN
  rename (∀ p : Addr × Obj, p ∈ news → p.1 < _) => hlt
  rename Obj => oc
  rename (Obj.data _ = Data.cell _) => hcell
  rename_i g1 L1 h1 tk1 FG1 F1 B1 X1 T1
  replace hcell : oc.data = .cell none := hcell
  have hneC : ∀ p ∈ news, @Ne Nat p.1 (L1 + 1) := fun p hp => by have := hlt p hp; exact Nat.ne_of_lt (Nat.lt_succ_of_lt this)
  k_steps
  rename (Obj.data _ = Data.cell (some _)) => hcell2
  rename (_ ∧ AllLt _ news) => hl9
  rename ((_ == sysModules) = false) => hlo
  rename (Obj.IsDictOf (intKind _ _) _ []) => hdi
  (rename Fr _ _ _ _ => lF'); (with_unfolding_all refine' For_invVF lF' ?k1 ?k2 ?_); (case k1 => exact rfl); (case k2 => exact rfl)
  skip
  rename News _ _ _ _ => lN
  walk1
  (try dsimp only)
  rename_i dA hA oD _ _ _ hB oc2
  obtain ⟨hl1, hl2⟩ := hl9
  refine lp_list (σ := Obj × List (Int × Value)) (fun c => [(dA, c.1)]) ((L1 + 1, oc2) :: news) (fun c => [])
    (fun tl c => c.1.IsDictOf (intKind PySem.Challenge.rw_k16_0032.row.prog w) c.2) [] (fun i c => c.2.length ≤ i ∧ ∀ k, LastRel nw (lastOf (ds.take i) k) (valueAt c.2 k)) (dA :: (L1 + 1) :: news.map (·.1))
    (oD, []) rfl (.tail _ (hsub _ hol)) lF' lN (by simp) (fun _ => by simp) hdi (by simp) ⟨by simp, fun k => by simp [lastOf, LastRel, valueAt]⟩ ?_ ?_
  · rintro ⟨od, kvs⟩ tl i v0 u h tk own hi hsep hoff hod ⟨hkl, hkv⟩ F1 N1
    obtain ⟨q, hq, hD⟩ := all_get hws hi
    obtain ⟨qa, qn, qt, qu, qs, rfl, hqm⟩ := deed_inv hD
    have hsn := take_snoc hq
    dsimp only at *
    clear lF' lN
    obtain ⟨rest, hrest⟩ : ∃ rest, rest = news ++ (tl ++ own) := ⟨_, rfl⟩
    have hne : ∀ p ∈ rest, p.1 ≠ dA := by
      intro p hp
      rw [hrest] at hp
      rcases List.mem_append.mp hp with hp | hp
      · exact Nat.ne_of_lt (ktn_ltOf hl2 p hp)
      · exact hoff p hp dA (by simp)
    have hqr : (qa, ({ cls := .type "tuple", data := .seq #[.str (if q.put then Str.ofString "put" else Str.ofString "del") qs, .int q.key qt, .int q.val qu] qn } : Obj)) ∈ rest := by
      rw [hrest]; exact List.mem_append_left _ (hsub _ hqm)
    have hqo : @Ne Nat qa dA := hne _ hqr
    have N2 := kst_newsOf (l' := (dA, od) :: (qa, ({ cls := .type "tuple", data := .seq #[.str (if q.put then Str.ofString "put" else Str.ofString "del") qs, .int q.key qt, .int q.val qu] qn } : Obj)) :: (L1 + 1, oc2) :: rest) N1 (by
      intro p hp
      rw [List.singleton_append, List.cons_append, ← hrest]
      rcases List.mem_cons.mp hp with rfl | hp
      · exact .head _
      · rcases List.mem_cons.mp hp with rfl | hp
        · exact .tail _ (.tail _ hqr)
        · exact .tail _ hp)
    clear N1
    k_steps
    k_dflt (refine' kda_set (knd := intKind _ _) ?F ?N ?U ?d (intKind_is _ _ _ _) ?z ?_; (case F => k_asm); (case N => k_asm); (case U => k_updF); (case d => exact hod); (case z => rw [sizeLine_eq]; have := List.getElem?_eq_some_iff.mp hi; obtain ⟨h3, _⟩ := this; omega))
    intro h9 o9 F9 N9 hd9
    (try dsimp only at N9)
    (try dsimp only)
    k_steps
    rename News _ _ _ _ => lN
    subst hrest
    refine' obj_end0 (o9, stored kvs q.key (.ref qa)) hsep (by assumption) lN (.head _) (fun p hp => .tail _ (.tail _ hp)) (by rfl) (by kst_all) (by intro z h1 h2 h3; simp only [kstB, h1, if_false, List.contains_nil, Bool.false_eq_true]) hd9 ⟨?_, ?_⟩
    · have := stored_len (kvs := kvs) (k := q.key) (v := .ref qa); dsimp only; omega
    · exact lastRel_step hsn hkv hD
  · rintro ⟨od, kvs⟩ tl u h tk hoff hod ⟨hkl, hkv⟩ F1 N1
    clear lF' lN
    rw [hwl, List.take_length] at hkv
    rw [hwl] at hkl
    dsimp only at *
    rw [List.singleton_append, List.cons_append] at N1
    walk1
    walk1
    k_dflt (refine LCt.ListComp_T (F₀ := by k_asm) (by with_unfolding_all rfl) (by decide) (by rfl) (by decide) (by rfl) ?_)
    k_steps
    have hDd : h.DictOf (intKind PySem.Challenge.rw_k16_0032.row.prog w) dA kvs := Heap.dictOf_iff.mpr ⟨od, (N1 _ (.head _)).1, hod⟩
    obtain ⟨ep, hat⟩ := hDd.dictAt
    refine kdu_sorted (kdl_dict (knd := intKind _ _) (kvs := kvs) (ep := ep) hlo) rfl F1 N1 hat (by rw [sizeLine_eq]; omega) (fun B h9 tk9 vs9 F9 N9 l9 hl9 hv9 => ?_)
    have hI9 : IntsAre vs9 (kvs.map (·.1)) := by
      refine kdy_ints (by rw [hl9, List.length_map]) fun j v hv => ?_
      obtain ⟨k, x, hx, hk⟩ := hv9 j v hv
      obtain ⟨t, rfl⟩ := Value.isInt_shape hk
      exact ⟨k, by rw [List.getElem?_map, hx]; rfl, t, rfl⟩
    refine srt F9 N9 (fun p hp => Nat.ne_of_lt (l9 p hp)) hI9 (by omega) (fun vs' ns' n' h' F' N' hI' hperm hP => ?_)
    have hnd : (kvs.map (·.1)).Nodup := by obtain ⟨_, _, _, _, _, _, q⟩ := hod; exact q
    have hnd' : ns'.Nodup := hperm.nodup_iff.mpr hnd
    have hstr := strict_of hP hnd'
    have hkeys : ∀ k, (lastOf ds k).isSome = true ↔ k ∈ ns' := by
      intro k
      rw [hperm.mem_iff, ← valueAt_some]
      have := hkv k
      cases e : lastOf ds k with
      | none => rw [e] at this; rw [show valueAt kvs k = none from this]; simp
      | some d => rw [e] at this; obtain ⟨x, hx, _⟩ := this; rw [hx]; simp
    have hlen' : ns'.length = kvs.length := by rw [hperm.length_eq, List.length_map]
    have hlen2 : vs'.length = ns'.length := hI'.length
    refine LCt.CompSrcT.ledger (by rfl) F' N' (.head _) (by rw [List.size_toArray, sizeLine_eq]; omega) ?_
    intro g'
    refine comp_inv (fun i ys nx => ∃ tl2, nx = (B, listOf vs'.toArray n') :: (dA, od) :: (L1 + 1, oc2) :: (news ++ (tl2 ++ tl)) ∧ (∀ q ∈ news, ∀ p ∈ tl2, p.1 ≠ q.1) ∧ DatAll (tl2 ++ tl) ys ((dueOf ds (ns'.take i)).map pairD)) ⟨[], rfl, (fun _ _ _ h => nomatch h), .nil⟩ ?_ ?_
    · rintro i v I oI C oC D m₂ ys nx h tk E' hi hv ⟨tl2, rfl, hoff2, hys⟩ hC hx F2 N2 off ne
      have hv2 : vs'[i]? = some v := by simpa using hv
      have hi2 : i < ns'.length := by rw [← hlen2]; exact (List.getElem?_eq_some_iff.mp hv2).1
      obtain ⟨t, hxk⟩ := hI'.get i (ns'[i]'hi2) (List.getElem?_eq_getElem hi2)
      obtain ⟨k, hk⟩ : ∃ k, k = ns'[i]'hi2 := ⟨_, rfl⟩
      rw [← hk] at hxk
      have ev : v = .int k t := by rw [hxk] at hv2; exact (Option.some.inj hv2).symm
      subst ev
      have hkm : k ∈ ns' := by rw [hk]; exact List.getElem_mem hi2
      have hsome := (hkeys k).mpr hkm
      have hdn : dueOf ds (ns'.take (i + 1)) = dueOf ds (ns'.take i) ++ (dueOne ds k).toList := by
        unfold dueOf
        rw [take_snoc (q := k) (by rw [hk]; exact List.getElem?_eq_getElem hi2), List.filterMap_append]
        cases e : dueOne ds k <;> simp [e]
      have hrel := hkv k
      obtain ⟨d, hd9⟩ := Option.isSome_iff_exists.mp hsome
      rw [hd9] at hrel
      obtain ⟨x, hval, hD⟩ := hrel
      obtain ⟨qa, qn, qt, qu, qs, rfl, hqm⟩ := deed_inv hD
      have hqn := hsub _ hqm
      have N3 := kst_newsOf (l' := (I, oI) :: (C, oC) :: (D, LCg.lst ys) :: (B, listOf vs'.toArray n') :: (dA, od) :: (L1 + 1, oc2) :: (qa, ({ cls := .type "tuple", data := .seq #[.str (if d.put then Str.ofString "put" else Str.ofString "del") qs, .int d.key qt, .int d.val qu] qn } : Obj)) :: (news ++ (tl2 ++ tl))) N2 (by
        intro p hp
        simp only [List.mem_cons] at hp ⊢
        rcases hp with hp | hp | hp | hp | hp | hp | hp | hp
        · exact .inl hp
        · exact .inr (.inl hp)
        · exact .inr (.inr (.inl hp))
        · exact .inr (.inr (.inr (.inl hp)))
        · exact .inr (.inr (.inr (.inr (.inl hp))))
        · exact .inr (.inr (.inr (.inr (.inr (.inl hp)))))
        · subst hp; exact .inr (.inr (.inr (.inr (.inr (.inr (List.mem_append_left _ hqn))))))
        · exact .inr (.inr (.inr (.inr (.inr (.inr hp))))))
      clear N2 N1 N9 N'
      cases hput : d.put with
      | true =>
        simp only [hput, if_true] at N3
        have hT : ∀ p ∈ (I, oI) :: (C, oC) :: (D, LCg.lst ys) :: (B, listOf vs'.toArray n') :: (dA, od) :: (L1 + 1, oc2) :: (qa, ({ cls := .type "tuple", data := .seq #[.str (Str.ofString "put") qs, .int d.key qt, .int d.val qu] qn } : Obj)) :: (news ++ (tl2 ++ tl)), p.1 < h.objs.size := fun p hp => Heap.lt_size (N3 p hp).1
        k_steps
        rename News _ _ _ _ => lN
        refine comp_endT (by assumption) lN hT off (.inr ⟨_, .head _, rfl, _, rfl⟩) ⟨_ :: tl2, rfl, off_cons (fun q hq => hT q (.tail _ (.tail _ (.tail _ (.tail _ (.tail _ (.tail _ (.tail _ (List.mem_append_left _ hq))))))))) hoff2, ?_⟩
        have e : dueOne ds k = some (k, d.val) := by unfold dueOne; rw [hd9]; simp [hput]
        rw [hdn, e, Option.toList_some]
        exact snocD hys (fun _ h => .tail _ h) (pair_in (.head _))
      | false =>
        simp only [hput, if_false, Bool.false_eq_true] at N3
        k_steps
        refine LCg.CompEnd.intro (by assumption) N3 ((B, listOf vs'.toArray n') :: (dA, od) :: (L1 + 1, oc2) :: (news ++ (tl2 ++ tl))) ?_ off (.inr ⟨_, .head _, rfl, _, rfl⟩) ⟨tl2, rfl, hoff2, ?_⟩
        · exact fun p hp => (List.mem_cons.mp hp).elim (fun e => e ▸ .head _) fun hp => .tail _ ((List.mem_cons.mp hp).elim (fun e => e ▸ .head _) fun hp => .tail _ ((List.mem_cons.mp hp).elim (fun e => e ▸ .head _) fun hp => .tail _ ((List.mem_cons.mp hp).elim (fun e => e ▸ .head _) fun hp => .tail _ ((List.mem_cons.mp hp).elim (fun e => e ▸ .head _) fun hp => .tail _ ((List.mem_cons.mp hp).elim (fun e => e ▸ .head _) fun hp => .tail _ (.tail _ hp))))))
        · have e : dueOne ds k = none := by unfold dueOne; rw [hd9]; simp [hput]
          rw [hdn, e, Option.toList_none, List.append_nil]
          exact hys
    · rintro ys nx ⟨tl2, rfl, hoff2, hys⟩
      intro D h8 tk8 F8 N8 off8
      clear N1 N9 N' F1 F9 F'
      (try dsimp only)
      k_steps
      rename News h₀ _ _ _ => lN
      have e : dueOf ds (ns'.take vs'.toArray.size) = mrun ds := by
        rw [List.size_toArray, hlen2, List.take_length]
        exact (due_is hstr fun k hk => (hkeys k).mp hk).symm
      rw [e] at hys
      refine hret _ ((D, LCg.lst ys) :: (tl2 ++ tl)) _ _ (by assumption) (kst_newsOf lN fun p hp => ?_) (fun q hq p hp => ?_) (.list (.head _) (hys.mono fun _ h => .tail _ h))
      · rcases List.mem_cons.mp (pull1 p hp) with rfl | hp
        · exact .head _
        · exact .tail _ (.tail _ (.tail _ (.tail _ hp)))
      · rcases List.mem_cons.mp hp with rfl | hp
        · exact Ne.symm (off1_mem off8 q (.tail _ (.tail _ (.tail _ (List.mem_append_left _ hq)))))
        · rcases List.mem_append.mp hp with hp | hp
          · exact hoff2 q hq p hp
          · exact hoff p hp q.1 (.tail _ (.tail _ (List.mem_map.mpr ⟨q, hq, rfl⟩)))
end Mine
end

section
open PySem PySem.W PyProof.Rows PySem.Calls PySem.Spec
set_option maxHeartbeats 8000000
namespace Mine
theorem deed_inT {nw : List (Addr × Obj)} {a : Addr} {n : Nat} {t u v : Tok} {k x : Int} (h : (a, ({ cls := .type "tuple", data := .seq [.str (Str.ofString "put") v, .int k t, .int x u].toArray n } : Obj)) ∈ nw) : ∃ d, DatIn nw (.ref a) (deedD d) :=
  ⟨⟨true, k, x⟩, .tuple h (.cons (.str _ _) (.cons (.int _ _) (.cons (.int _ _) .nil)))⟩
theorem deed_inF {nw : List (Addr × Obj)} {a : Addr} {n : Nat} {t u v : Tok} {k x : Int} (h : (a, ({ cls := .type "tuple", data := .seq [.str (Str.ofString "del") v, .int k t, .int x u].toArray n } : Obj)) ∈ nw) : ∃ d, DatIn nw (.ref a) (deedD d) :=
  ⟨⟨false, k, x⟩, .tuple h (.cons (.str _ _) (.cons (.int _ _) (.cons (.int _ _) .nil)))⟩
theorem deed_ct (w : World) (mean : ExcName → Option Value) (mg mb : Str → Option Value) :
    Says (δ := Unit) PySem.Challenge.rw_k16_0032.row.prog w (hd.heap_39 w.params) hd.view_39 (looseW hd.view_39 []) mean mg mb 8 47
      (fun base _ vs _ => ∃ l ws ns i t, vs = [.ref l, .int i t] ∧ base.IsList l (List.toArray ws) ∧ IntsAre ws ns ∧ ns.length ≤ 63 ∧ 0 ≤ i ∧ i ≤ 100)
      (fun _ tl r _ => ∃ d, DatIn tl r (deedD d)) := by
  k_fill
  w_top off
  unfold Says
  intro dp un gd cn cs a ccd cl outer A₀ base h₀ L m news nw s vs ds Q E B F X N T hk hsub hPre hd hu hret
  obtain ⟨l, ws, ns, i, t, rfl, hl, hI, hns, hi0, hi1⟩ := hPre
  refine wpAny_call ?_
  k_dflt cell_enter
  k_steps
  all_goals (
    rename News h₀ _ _ _ => lN
    rename (∀ p : Addr × Obj, p ∈ news → p.1 < _) => hlt
    refine hret _ [_] _ _ (by assumption) (kst_newsOf lN front1) (fun q hq p hp => by rw [List.mem_singleton.mp hp]; exact Nat.ne_of_gt (hlt q hq)) ?_
    first | exact deed_inT (.head _) | exact deed_inF (.head _))
end Mine
end

section
open PySem PySem.W PyProof.Rows PySem.Calls PySem.Spec
set_option maxHeartbeats 8000000
namespace Mine
def Hold (p : Prop) : Prop := p
theorem hold {p : Prop} (h : Hold p) : p := h
section
variable {prog : Program} {w : World} {A : Around} {E : Value → Shared → Prop} {s : Shared} {h₀ : Heap} {L a b : Addr} {news n₁ n₂ : List (Addr × Obj)} {xs ys : List Value} {ka kb : Nat} {ds : List Dat} {Q : Value → Shared → Prop}
theorem ne_same (N : News h₀ L s.heap news) (ma : (a, PySem.W.listOf xs.toArray ka) ∈ news) (Da : DatAll n₁ xs ds) (sa : ∀ p ∈ n₁, p ∈ news) (mb : (b, PySem.W.listOf ys.toArray kb) ∈ news) (Db : DatAll n₂ ys ds) (sb : ∀ p ∈ n₂, p ∈ news)
    (ha : ∀ d ∈ ds, kqdOk 8 d = true) (hu : A.units + 64 < cLine) (h : Q (.bool false) s) : wpAny (model prog w) A (compareOp .NotEq (.ref a) (.ref b)) Q E s :=
  kqd_ne N ma rfl rfl Da sa mb rfl rfl Db sb ha ha hu (by simpa using h)
end
theorem sub1 {e : Addr × Obj} {tl news : List (Addr × Obj)} (h1 : e ∈ news) (h3 : ∀ p ∈ tl, p ∈ news) : ∀ p ∈ e :: tl, p ∈ news := fun p hp => (List.mem_cons.mp hp).elim (fun q => q ▸ h1) (h3 p)
theorem name2 {h₀ h : Heap} {L D : Addr} {e : Addr × Obj} {o : Obj} {r : List (Addr × Obj)} (N : News h₀ L h (e :: (D, o) :: r)) : ∃ ot, o = ot ∧ News h₀ L h (e :: (D, ot) :: r) := ⟨o, rfl, N⟩
theorem deeds_ok (ds : List Deed) : ∀ d ∈ ds.map deedD, kqdOk 8 d = true := by
  intro d hd
  obtain ⟨q, _, rfl⟩ := List.mem_map.mp hd
  cases h : q.put <;> simp [deedD, h, kqdOk] <;> decide +kernel
theorem pairs_ok (ds : List (Int × Int)) : ∀ d ∈ ds.map pairD, kqdOk 8 d = true := by
  intro d hd
  obtain ⟨q, _, rfl⟩ := List.mem_map.mp hd
  rfl
end Mine
open Mine
local macro_rules | `(tactic| k_all) => `(tactic| assumption)
local macro_rules | `(tactic| walk_at "pyIter ref") => `(tactic| refine hold ?_)
local macro_rules | `(tactic| walk_at "call type:range") => `(tactic| ((rename Fr _ _ _ _ => F'); (rename News _ _ _ _ => N'); (with_unfolding_all refine range1_rows F' N' ?_; intro _ _ _ _ _ _ _ _ _)))
local macro_rules | `(tactic| walk_at "exec For Name Call cons nil") => `(tactic| ((rename Fr _ _ _ _ => lF'); (with_unfolding_all refine' For_invVF lF' ?k1 ?k2 ?_; (case k1 => exact rfl); (case k2 => exact rfl))))
local macro_rules | `(tactic| walk_at "compareOp NotEq ref ref") => `(tactic| refine hold ?_)
local macro_rules | `(tactic| walk_at "call ref") => `(tactic| ((with_reducible show wpAny _ _ (call (Value.ref 47) _) _ _ _); refine hold ?_))
local macro_rules | `(tactic| walk_at "call ref") => `(tactic| ((with_reducible show wpAny _ _ (call (Value.ref 33) _) _ _ _); refine hold ?_))
local macro_rules | `(tactic| walk_at "call ref") => `(tactic| ((with_reducible show wpAny _ _ (call (Value.ref 52) _) _ _ _); refine hold ?_))
theorem PySem.Challenge.cw_k16_0032_holds : PySem.Challenge.rw_k16_0032.Holds := by
  refine Mine.hd ?_
  k_go0; (all_goals try k_fold)
  rename_i w s₀ s₁ mg mb G Y fa o pm doc kV ho hg KX X V GL T B TE TW w9 w8 M w7 w6 hcd ns hs hlay0 hL1 hr1 hl2 w4 w3 l vs0 as hL ra w1 r0 hI hr hc1 hc K0 hD h1 F N0
  have hns : ns.length ≤ 63 := by omega
  k_steps
  unfold Hold
  rename IsRange _ _ _ _ _ _ _ _ => hR
  rename Fr _ _ _ _ => lF
  rename News _ _ _ _ => lN
  rename_i ops _ _ _ _ _ _ _ _ _ _ _ _
  have hx0 := fmod_lo (cellAt ns 0 0) (n := 7) (by decide)
  have hx1 := fmod_hi (cellAt ns 0 0) (n := 7) (by decide)
  generalize (cellAt ns 0 0).fmod 7 = x at hx0 hx1 hR
  refine kd_range (σ := List Value × Nat × List Deed) (n := x.toNat) (fun c => [(ops, PySem.W.listOf c.1.toArray c.2.1)]) [] (fun c => []) (fun nx c => DatAll nx c.1 (c.2.2.map deedD)) [] (fun pre c => c.2.2.length = pre.length) [ops]
    ([], 0, []) rfl hR (small_one (by omega) (by omega) (by omega) (by omega)) (by rw [rangeSize_nat]; congr 1; omega) lF lN (by simp) (fun _ => rfl) .nil (by simp) rfl ?_ ?_
  · rintro ⟨vs, nv, ds⟩ tl pre k t u h tk own hk hpre hsep hoff hfa hP F1 N1
    dsimp only at *
    clear lF lN
    have hne : ∀ p ∈ tl ++ own, p.1 ≠ ops := fun p hp => hoff p hp ops (by simp)
    have hsz : vs.length ≤ 1000 := by
      have e := hfa.length
      rw [List.length_map] at e
      omega
    rw [List.singleton_append, List.nil_append] at N1
    k_steps
    unfold Hold
    refine' says_use (deed_ct w _ mg mb) () [] ?k1 ?k2 ?k3 ?k4 ?k5 ?k6 ?k7 ?k8 ?k9 ?k10 ?_
    (case k1 => k_asm)
    (case k2 => k_asm)
    (case k3 => k_asm)
    (case k4 => k_asm)
    (case k5 => k_asm)
    (case k6 => exact rfl)
    (case k7 => exact fun _ h => nomatch h)
    (case k8 => exact ⟨l, vs0, ns, _, _, rfl, hL, hI, hns, by omega, by omega⟩)
    (case k9 => exact Nat.le_of_ble_eq_true rfl)
    (case k10 => exact Nat.le_of_ble_eq_true rfl)
    intro r9 tl9 h9 tk9 F9 N9 off9 ho9
    obtain ⟨d, hd⟩ := ho9
    obtain ⟨qa, qn, qt, qu, qs, rfl, hqm⟩ := deed_inv hd
    rw [List.cons_append] at N9
    have hne2 : ∀ p ∈ (tl ++ own) ++ tl9, p.1 ≠ ops := fun p hp => (List.mem_append.mp hp).elim (hne p) fun h => off9 _ (.head _) p h
    (try dsimp only)
    k_steps
    rename News _ _ _ _ => lN
    simp only [List.push_toArray] at lN
    refine' out_endN (_, _, ds ++ [d]) (tl2 := tl9) hsep (by assumption) lN (.head _) (fun p hp => .tail _ (List.mem_append_left _ hp)) (fun p hp => .tail _ (List.mem_append_right _ hp)) (by rfl) (fun p hp => off9 _ (.head _) p hp) (fun q hq p hp => off9 q (.tail _ hq) p hp) (by kst_all) (by intro z h1 h2 h3; simp only [kstB, h1, if_false, List.contains_nil, Bool.false_eq_true]) ?_ ?_
    · rw [List.map_append]
      exact (hfa.mono fun p hp => List.mem_append_right _ (List.mem_append_right _ hp)).append (.one (hd.mono fun p hp => List.mem_append_right _ (List.mem_append_left _ hp)))
    · simp [hP]
  · rintro ⟨vs, nv, ds⟩ tl u h tk hoff hfa hP F1 N1
    dsimp only at *
    clear lF lN
    have hne : ∀ p ∈ tl, p.1 ≠ ops := fun p hp => hoff p hp ops (by simp)
    have hdl : ds.length ≤ 6 := by rw [hP, rangeKs_length]; omega
    have hsz : vs.length ≤ 6 := by
      have e := hfa.length
      rw [List.length_map] at e
      omega
    rw [List.singleton_append, List.nil_append] at N1
    rw [List.nil_append] at hfa
    k_steps
    rename (_ ∧ AllLt _ tl) => hl1
    rename_i bef cb h5 F5 N5 h6 F6 N6
    unfold Hold
    refine' says_use (run_ct w _ mg mb) ds ((ops, PySem.W.listOf vs.toArray nv) :: tl) ?k1 ?k2 ?k3 ?k4 ?k5 ?k6 ?k7 ?k8 ?k9 ?k10 ?_
    (case k1 => k_asm)
    (case k2 => k_asm)
    (case k3 => k_asm)
    (case k4 => k_asm)
    (case k5 => k_asm)
    (case k6 => exact rfl)
    (case k7 => exact fun p hp => .tail _ hp)
    (case k8 => exact ⟨_, rfl, .list (.head _) (hfa.mono fun _ h => .tail _ h), by omega⟩)
    (case k9 => exact Nat.le_of_ble_eq_true rfl)
    (case k10 => exact Nat.le_of_ble_eq_true rfl)
    intro r9 tl9 h9 tk9 F9 N9 off9 ho9
    obtain ⟨ga, gv, gn, rfl, hgm, hgd⟩ := list_inv ho9
    rw [List.cons_append, List.cons_append] at N9
    have hne2 : ∀ p ∈ tl ++ tl9, p.1 ≠ ops := fun p hp => (List.mem_append.mp hp).elim (hne p) fun h => off9 _ (.tail _ (.head _)) p h
    (try dsimp only)
    k_steps
    unfold Hold
    refine ne_same (by k_asm) (.tail _ (.head _)) hfa (fun p hp => .tail _ (.tail _ (List.mem_append_left _ hp))) (.head _) hfa (fun p hp => .tail _ (.tail _ (List.mem_append_left _ hp))) (deeds_ok ds) (Nat.le_of_ble_eq_true rfl) ?_
    (try dsimp only)
    k_steps
    rename_i D1 h3x l1a h2x tkx lon cl h1x l1b h0x F0x N0x
    simp only [List.push_toArray] at N0x
    obtain ⟨ot, hot, N1x⟩ := name2 N0x
    clear N0x
    have hD1 : ∀ nw : List (Addr × Obj), (D1, ot) ∈ nw → DatIn nw (.ref D1) (deedD ⟨true, 3, cellAt ns 2 0⟩) := fun nw h => by
      subst hot
      exact .tuple h (.cons (.str _ _) (.cons (.int _ _) (.cons (.int _ _) .nil)))
    clear hot
    obtain ⟨es, hes⟩ : ∃ es, es = ds ++ [⟨true, 3, cellAt ns 2 0⟩] := ⟨_, rfl⟩
    have hel : es.length ≤ 10 := by rw [hes]; simp; omega
    have hfe : DatAll ((D1, ot) :: tl) (vs ++ [.ref D1]) (es.map deedD) := by
      rw [hes, List.map_append]
      exact (hfa.mono fun _ h => .tail _ h).append (.one (hD1 _ (.head _)))
    unfold Hold
    refine' says_use (run_ct w _ mg mb) es ((ops, PySem.W.listOf (vs ++ [Value.ref D1]).toArray (nv + 1)) :: (D1, ot) :: tl) ?k1 ?k2 ?k3 ?k4 ?k5 ?k6 ?k7 ?k8 ?k9 ?k10 ?_
    (case k1 => k_asm)
    (case k2 => k_asm)
    (case k3 => k_asm)
    (case k4 => k_asm)
    (case k5 => k_asm)
    (case k6 => exact rfl)
    (case k7 => exact sub1 (.tail _ (.tail _ (.tail _ (.head _)))) (sub1 (.tail _ (.head _)) (fun p hp => .tail _ (.tail _ (.tail _ (.tail _ (List.mem_append_left _ hp)))))))
    (case k8 => exact ⟨_, rfl, .list (.head _) (hfe.mono fun _ h => .tail _ h), hel⟩)
    (case k9 => exact Nat.le_of_ble_eq_true rfl)
    (case k10 => exact Nat.le_of_ble_eq_true rfl)
    intro r10 tl10 h10 tk10 F10 N10 off10 ho10
    obtain ⟨aa, av, an, rfl, ham, had⟩ := list_inv ho10
    simp only [List.cons_append, List.append_assoc] at N10
    (try dsimp only)
    k_steps
    unfold Hold
    refine ne_same (by k_asm) (.tail _ (.tail _ (.tail _ (.head _)))) hfe (sub1 (.tail _ (.head _)) (fun p hp => .tail _ (.tail _ (.tail _ (.tail _ (List.mem_append_left _ hp)))))) (.head _) hfe (sub1 (.tail _ (.head _)) (fun p hp => .tail _ (.tail _ (.tail _ (.tail _ (List.mem_append_left _ hp)))))) (deeds_ok es) (Nat.le_of_ble_eq_true rfl) ?_
    (try dsimp only)
    k_steps
    unfold Hold
    refine' says_use (due_ct w _ mg mb) ds ((bef, PySem.W.listOf vs.toArray cb) :: tl) ?k1 ?k2 ?k3 ?k4 ?k5 ?k6 ?k7 ?k8 ?k9 ?k10 ?_
    (case k1 => k_asm)
    (case k2 => k_asm)
    (case k3 => k_asm)
    (case k4 => k_asm)
    (case k5 => k_asm)
    (case k6 => exact rfl)
    (case k7 => exact sub1 (.tail _ (.tail _ (.head _))) (fun p hp => .tail _ (.tail _ (.tail _ (.tail _ (List.mem_append_left _ hp))))))
    (case k8 => exact ⟨_, rfl, .list (.head _) (hfa.mono fun _ h => .tail _ h), by omega⟩)
    (case k9 => exact Nat.le_of_ble_eq_true rfl)
    (case k10 => exact Nat.le_of_ble_eq_true rfl)
    intro r11 tl11 h11 tk11 F11 N11 off11 ho11
    obtain ⟨ba, bv, bn, rfl, hbm, hbd⟩ := list_inv ho11
    simp only [List.cons_append, List.append_assoc] at N11
    (try dsimp only)
    k_steps
    unfold Hold
    refine ne_same (by k_asm) (( .tail _ (.tail _ (.tail _ (.tail _ (List.mem_append_right _ (List.mem_append_left _ hgm))))))) hgd (fun p hp => .tail _ (.tail _ (.tail _ (.tail _ (List.mem_append_right _ (List.mem_append_left _ hp)))))) (( .tail _ (.tail _ (.tail _ (.tail _ (List.mem_append_right _ (List.mem_append_right _ (List.mem_append_right _ hbm)))))))) hbd (fun p hp => .tail _ (.tail _ (.tail _ (.tail _ (List.mem_append_right _ (List.mem_append_right _ (List.mem_append_right _ hp))))))) (pairs_ok _) (Nat.le_of_ble_eq_true rfl) ?_
    (try dsimp only)
    k_steps
    unfold Hold
    refine' says_use (due_ct w _ mg mb) es ((lon, PySem.W.listOf (vs ++ [Value.ref D1]).toArray cl) :: (D1, ot) :: tl) ?k1 ?k2 ?k3 ?k4 ?k5 ?k6 ?k7 ?k8 ?k9 ?k10 ?_
    (case k1 => k_asm)
    (case k2 => k_asm)
    (case k3 => k_asm)
    (case k4 => k_asm)
    (case k5 => k_asm)
    (case k6 => exact rfl)
    (case k7 => exact sub1 (.head _) (sub1 (.tail _ (.head _)) (fun p hp => .tail _ (.tail _ (.tail _ (.tail _ (List.mem_append_left _ hp)))))))
    (case k8 => exact ⟨_, rfl, .list (.head _) (hfe.mono fun _ h => .tail _ h), hel⟩)
    (case k9 => exact Nat.le_of_ble_eq_true rfl)
    (case k10 => exact Nat.le_of_ble_eq_true rfl)
    intro r12 tl12 h12 tk12 F12 N12 off12 ho12
    obtain ⟨ca, cv, cn, rfl, hcm, hcd⟩ := list_inv ho12
    simp only [List.cons_append, List.append_assoc] at N12
    (try dsimp only)
    k_steps
    unfold Hold
    refine ne_same (by k_asm) (( .tail _ (.tail _ (.tail _ (.tail _ (List.mem_append_right _ (List.mem_append_right _ (List.mem_append_left _ ham)))))))) had (fun p hp => .tail _ (.tail _ (.tail _ (.tail _ (List.mem_append_right _ (List.mem_append_right _ (List.mem_append_left _ hp))))))) (( .tail _ (.tail _ (.tail _ (.tail _ (List.mem_append_right _ (List.mem_append_right _ (List.mem_append_right _ (List.mem_append_right _ hcm))))))))) hcd (fun p hp => .tail _ (.tail _ (.tail _ (.tail _ (List.mem_append_right _ (List.mem_append_right _ (List.mem_append_right _ (List.mem_append_right _ hp)))))))) (pairs_ok _) (Nat.le_of_ble_eq_true rfl) ?_
    (try dsimp only)
    k_steps
end
