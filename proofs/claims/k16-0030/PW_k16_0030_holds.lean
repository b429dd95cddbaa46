import PyProof.Rows.All
import Wide.All
import OpenK.AllK
import Wide.FinOn
import PySem.Challenge.RW_k16_0030
open PySem PySem.W PyProof.Rows
set_option Elab.async false
set_option maxRecDepth 100000
namespace Mine
set_option maxHeartbeats 8000000
open_top hd for PySem.Challenge.rw_k16_0030
end Mine

section
namespace Mine
def mdel (ps : List (Int × Int)) (key : Int) : List (Int × Int) := ps.filter fun p => decide (p.1 ≠ key)
theorem mdel_keep {ps : List (Int × Int)} {key : Int} (h : ∀ p ∈ ps, p.1 ≠ key) : mdel ps key = ps := by
  unfold mdel
  rw [List.filter_eq_self]
  intro p hp
  simpa using h p hp
theorem mdel_none {ps : List (Int × Int)} {key : Int} (h : ∀ p ∈ ps, p.1 = key) : mdel ps key = [] := by
  unfold mdel
  rw [List.filter_eq_nil_iff]
  intro p hp
  simpa using h p hp
theorem mdel_app (a b : List (Int × Int)) (key : Int) : mdel (a ++ b) key = mdel a key ++ mdel b key := by simp [mdel]
theorem mdel_law {l m r : List (Int × Int)} {key : Int} (hl : ∀ p ∈ l, p.1 < key) (hm : ∀ p ∈ m, p.1 = key) (hr : ∀ p ∈ r, key < p.1) : mdel (l ++ m ++ r) key = l ++ r := by
  rw [mdel_app, mdel_app, mdel_none hm, mdel_keep (ps := l) fun p hp => by have := hl p hp; omega, mdel_keep (ps := r) fun p hp => by have := hr p hp; omega, List.append_nil]
theorem mdel_law2 {l r : List (Int × Int)} {key : Int} (hl : ∀ p ∈ l, p.1 < key) (hr : ∀ p ∈ r, key < p.1) : mdel (l ++ r) key = l ++ r := by
  rw [mdel_app, mdel_keep (ps := l) fun p hp => by have := hl p hp; omega, mdel_keep (ps := r) fun p hp => by have := hr p hp; omega]
end Mine
end

section
open PySem PySem.W PyProof.Rows PySem.Calls PySem.Spec
set_option maxHeartbeats 8000000
namespace Mine
section
variable {prog : Program} {w : World} {A : Around} {h₀ : Heap} {L : Addr} {m : Str → Option Value} {env : Env} {ct elt : PySem.Expr} {x : Str} {scope : Scope} {cl : List (Str × Addr)} {s : Shared} {S : List (Addr × Obj) → Prop} {P : Nat → Value → Prop} {Fin : List Value → List (Addr × Obj) → Prop} {news : List (Addr × Obj)}

theorem compEnd_mono {s₁ s₂ : Shared} {I C D : Addr} {oI oC oD : Obj} {r r' : Value → List (Addr × Obj) → Prop} {y : Value} (h : ∀ nw, r y nw → r' y nw)
    (e : LCg.CompEnd h₀ L m s₁ I oI C oC D oD S r y s₂) : LCg.CompEnd h₀ L m s₁ I oI C oC D oD S r' y s₂ := by
  obtain ⟨h', tk, nw, e1, F, N, off, hS, hr⟩ := e
  exact ⟨h', tk, nw, e1, F, N, off, hS, h nw hr⟩

/-- a comprehension with one test, by what holds between its turns -/
theorem comp_inv {n : Nat} (Inv : Nat → List Value → List (Addr × Obj) → Prop) (h0 : Inv 0 [] news)
    (turn : ∀ i v I oI C oC D m₂ ys nw h tk (E' : Value → Shared → Prop), i < n → P i v → Inv i ys nw → LCg.NsObj oC m₂ → m₂ x = some v → Fr h₀ L h m → News h₀ L h ((I, oI) :: (C, oC) :: (D, LCg.lst ys) :: nw) → LCg.Off3 I C D nw → ((@Ne Nat I C) ∧ (@Ne Nat I D) ∧ (@Ne Nat C D)) →
      wpAny (model prog w) A (isTrue ct (compEnvC scope cl C env) (eval ct (compEnvC scope cl C env))) (fun b s' => if b = true then wpAny (model prog w) A (eval elt (compEnvC scope cl C env)) (LCg.CompEnd h₀ L m { s with heap := h, toks := tk } I oI C oC D (LCg.lst ys) S (fun y nw' => Inv (i + 1) (ys ++ [y]) nw')) E' s'
        else LCg.CompEnd h₀ L m { s with heap := h, toks := tk } I oI C oC D (LCg.lst ys) S (fun _ nw' => Inv (i + 1) ys nw') Value.none s') E' { s with heap := h, toks := tk })
    (fin : ∀ ys nw, Inv n ys nw → Fin ys nw) : LCt.CompRestT prog w A h₀ L m env ct elt x scope cl s S P Fin n 0 [] news := by
  have key : ∀ (j i : Nat) (ys : List Value) (nw : List (Addr × Obj)), i + j = n → Inv i ys nw → LCt.CompRestT prog w A h₀ L m env ct elt x scope cl s S P Fin j i ys nw := by
    intro j
    induction j with
    | zero =>
      intro i ys nw hi hy
      have e : i = n := by omega
      subst e
      exact LCt.CompRestT.zero (fin ys nw hy)
    | succ j ih =>
      intro i ys nw hi hy
      refine LCt.CompRestT.succ ?_
      intro v I oI C oC D m₂ h tk E' hv hC hx F N off ne
      refine wpAny_mono (turn i v I oI C oC D m₂ ys nw h tk E' (by omega) hv hy hC hx F N off ne) (fun b s₂ hq => ?_) fun _ _ e => e
      cases b with
      | true =>
        simp only [if_true] at hq ⊢
        exact wpAny_mono hq (fun y s₃ hr => compEnd_mono (fun nw' hi' => ih (i + 1) _ nw' (by omega) hi') hr) fun _ _ e => e
      | false =>
        simp only [Bool.false_eq_true, if_false] at hq ⊢
        exact compEnd_mono (fun nw' hi' => ih (i + 1) _ nw' (by omega) hi') hq
  exact key n 0 [] news (by omega) h0

/-- the same without a test -/
theorem comp_inv0 {n : Nat} (Inv : Nat → List Value → List (Addr × Obj) → Prop) (h0 : Inv 0 [] news)
    (turn : ∀ i v I oI C oC D m₂ ys nw h tk (E' : Value → Shared → Prop), i < n → P i v → Inv i ys nw → LCg.NsObj oC m₂ → m₂ x = some v → Fr h₀ L h m → News h₀ L h ((I, oI) :: (C, oC) :: (D, LCg.lst ys) :: nw) → LCg.Off3 I C D nw → ((@Ne Nat I C) ∧ (@Ne Nat I D) ∧ (@Ne Nat C D)) →
      wpAny (model prog w) A (eval elt (compEnvC scope cl C env)) (LCg.CompEnd h₀ L m { s with heap := h, toks := tk } I oI C oC D (LCg.lst ys) S (fun y nw' => Inv (i + 1) (ys ++ [y]) nw')) E' { s with heap := h, toks := tk })
    (fin : ∀ ys nw, Inv n ys nw → Fin ys nw) : LCg.CompRest prog w A h₀ L m env elt x scope cl s S P Fin n 0 [] news := by
  have key : ∀ (j i : Nat) (ys : List Value) (nw : List (Addr × Obj)), i + j = n → Inv i ys nw → LCg.CompRest prog w A h₀ L m env elt x scope cl s S P Fin j i ys nw := by
    intro j
    induction j with
    | zero =>
      intro i ys nw hi hy
      have e : i = n := by omega
      subst e
      exact LCg.CompRest.zero (fin ys nw hy)
    | succ j ih =>
      intro i ys nw hi hy
      refine LCg.CompRest.succ ?_
      intro v I oI C oC D m₂ h tk E' hv hC hx F N off ne
      exact wpAny_mono (turn i v I oI C oC D m₂ ys nw h tk E' (by omega) hv hy hC hx F N off ne) (fun y s₃ hr => compEnd_mono (fun nw' hi' => ih (i + 1) _ nw' (by omega) hi') hr) fun _ _ e => e
  exact key n 0 [] news (by omega) h0
end
end Mine
end

section
open PySem PySem.W PyProof.Rows PySem.Calls PySem.Spec
set_option maxHeartbeats 8000000
namespace Mine
/-- what a call of the def at f does: the data of its arguments lie in nw, a part of the ledger; what it makes is tl -/
def Says {δ : Type} (prog : Program) (w : World) (K : Frag) (p : Program) (loose : List Str) (mean : ExcName → Option Value) (mg mb : Str → Option Value) (kd : Nat) (f : Addr)
    (Pre : Heap → List (Addr × Obj) → List Value → δ → Prop) (Out : List (Addr × Obj) → List (Addr × Obj) → Value → δ → Prop) : Prop :=
  ∀ (dp un : Nat) (gd : Option (List Code)) (cn : Str) (cs : Scope) (a : Addr) (ccd : Value) (cl : List (Str × Addr)) (outer : List Env) (A₀ : Around) (base h₀ : Heap) (L : Addr) (m : Str → Option Value) (news nw : List (Addr × Obj)) (s : Shared) (vs : List Value) (d : δ)
    (Q E : Value → Shared → Prop),
    Below A₀ base outer h₀ → Fr h₀ L s.heap m → K.In h₀ → News h₀ L s.heap news → Top p loose mean mg mb h₀ → cs.kind = .function → (∀ p ∈ nw, p ∈ news) → Pre base nw vs d → dp + kd < recursionLimit → un + 20 * kd < cLine →
    (∀ r tl h' tk', Fr h₀ L h' m → News h₀ L h' (news ++ tl) → (∀ q ∈ news, ∀ p ∈ tl, p.1 ≠ q.1) → Out nw tl r d → Q r { s with heap := h', toks := tk' }) →
    wpAny (model prog w) (ktrTop dp un gd cn cs L a ccd cl outer) (call (.ref f) vs) Q E s
theorem says_use {δ : Type} {prog : Program} {w : World} {K : Frag} {p : Program} {loose : List Str} {mean : ExcName → Option Value} {mg mb : Str → Option Value} {kd : Nat} {f : Addr}
    {Pre : Heap → List (Addr × Obj) → List Value → δ → Prop} {Out : List (Addr × Obj) → List (Addr × Obj) → Value → δ → Prop} (C : Says prog w K p loose mean mg mb kd f Pre Out) (d : δ) (nw : List (Addr × Obj))
    {dp un : Nat} {gd : Option (List Code)} {cn : Str} {cs : Scope} {a : Addr} {ccd : Value} {cl : List (Str × Addr)} {outer : List Env} {A₀ : Around} {base h₀ : Heap} {L : Addr} {m : Str → Option Value} {news : List (Addr × Obj)} {s : Shared} {vs : List Value}
    {Q E : Value → Shared → Prop}
    (B : Below A₀ base outer h₀) (F : Fr h₀ L s.heap m) (X : K.In h₀) (N : News h₀ L s.heap news) (T : Top p loose mean mg mb h₀) (hk : cs.kind = .function) (hs : ∀ p ∈ nw, p ∈ news) (hp : Pre base nw vs d) (hd : dp + kd < recursionLimit) (hu : un + 20 * kd < cLine)
    (ret : ∀ r tl h' tk', Fr h₀ L h' m → News h₀ L h' (news ++ tl) → (∀ q ∈ news, ∀ p ∈ tl, p.1 ≠ q.1) → Out nw tl r d → Q r { s with heap := h', toks := tk' }) :
    wpAny (model prog w) (ktrTop dp un gd cn cs L a ccd cl outer) (call (.ref f) vs) Q E s := C _ _ _ _ _ _ _ _ _ _ _ _ _ _ _ _ _ _ _ _ _ B F X N T hk hs hp hd hu ret

abbrev pairD (p : Int × Int) : Dat := .tuple [.int p.1, .int p.2]
theorem pair_inv {nw : List (Addr × Obj)} {v : Value} {q : Int × Int} (h : DatIn nw v (pairD q)) :
    ∃ a n t u, v = .ref a ∧ (a, ({ cls := .type "tuple", data := .seq #[.int q.1 t, .int q.2 u] n } : Obj)) ∈ nw := by
  cases h with
  | tuple hm r =>
    cases r with
    | cons h1 r =>
      cases h1
      cases r with
      | cons h2 r =>
        cases h2
        cases r
        exact ⟨_, _, _, _, rfl, hm⟩
theorem list_inv {nw : List (Addr × Obj)} {v : Value} {ds : List Dat} (h : DatIn nw v (.list ds)) : ∃ a vs n, v = .ref a ∧ (a, listOf vs.toArray n) ∈ nw ∧ DatAll nw vs ds := by
  cases h with
  | list hm r => exact ⟨_, _, _, rfl, hm, r⟩
theorem sub_new {nw tl : List (Addr × Obj)} {e : Addr × Obj} : ∀ p ∈ nw ++ tl, p ∈ nw ++ (e :: tl) := fun _ hp => (List.mem_append.mp hp).elim (fun h => List.mem_append_left _ h) fun h => List.mem_append_right _ (.tail _ h)
theorem sub_left {nw tl : List (Addr × Obj)} : ∀ p ∈ nw, p ∈ nw ++ tl := fun _ hp => List.mem_append_left _ hp
theorem sub_mid {nw tl tl2 : List (Addr × Obj)} : ∀ p ∈ nw ++ tl, p ∈ nw ++ (tl2 ++ tl) := fun _ hp => (List.mem_append.mp hp).elim (fun h => List.mem_append_left _ h) fun h => List.mem_append_right _ (List.mem_append_right _ h)
theorem mid_of {a tl tl2 : List (Addr × Obj)} : ∀ p ∈ (a ++ tl) ++ tl2, p ∈ a ++ (tl2 ++ tl) := fun p hp => (List.mem_append.mp hp).elim (fun h => sub_mid p h) fun h => List.mem_append_right _ (List.mem_append_left _ h)
theorem mem_new {nw tl : List (Addr × Obj)} {e : Addr × Obj} : e ∈ nw ++ (e :: tl) := List.mem_append_right _ (.head _)
theorem pair_in {nw : List (Addr × Obj)} {a : Addr} {n : Nat} {t u : Tok} {q : Int × Int} (h : (a, ({ cls := .type "tuple", data := .seq [.int q.1 t, .int q.2 u].toArray n } : Obj)) ∈ nw) : DatIn nw (.ref a) (pairD q) :=
  .tuple h (.cons (.int _ _) (.cons (.int _ _) .nil))
theorem snocD {nw nw' : List (Addr × Obj)} {vs : List Value} {v : Value} {ds : List (Int × Int)} {q : Int × Int} (h : DatAll nw vs (ds.map pairD)) (hs : ∀ p ∈ nw, p ∈ nw') (hv : DatIn nw' v (pairD q)) : DatAll nw' (vs ++ [v]) ((ds ++ [q]).map pairD) := by
  rw [List.map_append]
  exact (h.mono hs).append (.one hv)
theorem all_get {α : Type} {f : α → Dat} {nw : List (Addr × Obj)} {vs : List Value} {ds : List α} (h : DatAll nw vs (ds.map f)) {i : Nat} {v : Value} (hv : vs[i]? = some v) : ∃ q, ds[i]? = some q ∧ DatIn nw v (f q) := by
  have e := h.length
  rw [List.length_map] at e
  have hi : i < vs.length := (List.getElem?_eq_some_iff.mp hv).1
  have hi' : i < (ds.map f).length := by rw [List.length_map]; omega
  obtain ⟨v', hv', hD⟩ := h.get hi'
  rw [hv] at hv'
  have ev := Option.some.inj hv'
  subst ev
  have hi2 : i < ds.length := by omega
  exact ⟨ds[i], List.getElem?_eq_getElem hi2, by simpa using hD⟩
theorem take_snoc {α : Type} {ds : List α} {i : Nat} {q : α} (h : ds[i]? = some q) : ds.take (i + 1) = ds.take i ++ [q] := by
  rw [List.take_add_one, h]; rfl
theorem pull1 {e : Addr × Obj} {nw tl : List (Addr × Obj)} : ∀ p ∈ nw ++ (e :: tl), p ∈ e :: (nw ++ tl) := by
  intro p hp
  rcases List.mem_append.mp hp with hp | hp
  · exact .tail _ (List.mem_append_left _ hp)
  · rcases List.mem_cons.mp hp with rfl | hp
    · exact .head _
    · exact .tail _ (List.mem_append_right _ hp)
theorem pull2 {e f : Addr × Obj} {nw tl : List (Addr × Obj)} : ∀ p ∈ nw ++ (e :: f :: tl), p ∈ e :: f :: (nw ++ tl) := by
  intro p hp
  rcases List.mem_cons.mp (pull1 p hp) with rfl | hp
  · exact .head _
  · exact .tail _ (pull1 p hp)
theorem front1 {e : Addr × Obj} {nw : List (Addr × Obj)} : ∀ p ∈ nw ++ [e], p ∈ e :: nw := by
  intro p hp
  rcases List.mem_append.mp hp with hp | hp
  · exact .tail _ hp
  · rw [List.mem_singleton.mp hp]; exact .head _
theorem off_cons {e : Addr × Obj} {nw tl : List (Addr × Obj)} (h1 : ∀ q ∈ nw, q.1 < e.1) (h2 : ∀ q ∈ nw, ∀ p ∈ tl, p.1 ≠ q.1) : ∀ q ∈ nw, ∀ p ∈ e :: tl, p.1 ≠ q.1 := by
  intro q hq p hp
  rcases List.mem_cons.mp hp with rfl | hp
  · exact Nat.ne_of_gt (h1 q hq)
  · exact h2 q hq p hp
theorem off_of {tl nw : List (Addr × Obj)} {o : Addr} (h : OwnOff tl (o :: nw.map (·.1))) : ∀ q ∈ nw, ∀ p ∈ tl, p.1 ≠ q.1 := fun q hq p hp => h p hp q.1 (.tail _ (List.mem_map.mpr ⟨q, hq, rfl⟩))
theorem off_of0 {tl nw : List (Addr × Obj)} (h : OwnOff tl (nw.map (·.1))) : ∀ q ∈ nw, ∀ p ∈ tl, p.1 ≠ q.1 := fun q hq p hp => h p hp q.1 (List.mem_map.mpr ⟨q, hq, rfl⟩)
theorem off1_mem {D : Addr} : ∀ {l : List (Addr × Obj)}, LCg.Off1 D l → ∀ p ∈ l, p.1 ≠ D
  | [], _, _, h => nomatch h
  | _ :: _, x, p, h => by
    rcases List.mem_cons.mp h with rfl | h
    · exact x.1
    · exact off1_mem x.2 p h

section
variable {prog : Program} {w : World} {A : Around} {E : Value → Shared → Prop} {s : Shared} {env : Env} {h₀ : Heap} {x : Str} {body : List Stmt} {Q : Flow → Shared → Prop}
set_option maxHeartbeats 3200000 in
/-- a loop over a list of the ledger, by what holds between its turns; G speaks of what the turns have made -/
theorem lp_list {σ : Type} {l : Addr} {vs : List Value} {nn : Nat} {m₀ : Str → Option Value} {news : List (Addr × Obj)} (Led : σ → List (Addr × Obj)) (cst : List (Addr × Obj)) (ps : σ → List (Str × Value)) (G : List (Addr × Obj) → σ → Prop) (stored : List Str) (P : Nat → σ → Prop) (adr : List Addr) (c₀ : σ)
    (hh : A.handled = none) (hl : (l, listOf vs.toArray nn) ∈ cst) (F : Fr h₀ env.locals s.heap m₀) (N : News h₀ env.locals s.heap news) (hn : ∀ p ∈ Led c₀ ++ (cst ++ []), p ∈ news) (hadr : ∀ c, (Led c ++ cst).map (·.1) = adr) (hf : G [] c₀) (hk : ∀ p ∈ ps c₀, m₀ p.1 = some p.2) (hp : P 0 c₀)
    (turn : ∀ (c : σ) tl i v (u : Str → Option Value) h tk own, vs[i]? = some v → KdSep own tl adr → OwnOff (tl ++ own) adr → G tl c → P i c →
      Fr h₀ env.locals h (fun y => if y = x then some v else kstB (fun z => if stored.contains z then u z else m₀ z) (ps c) y) → News h₀ env.locals h (Led c ++ (cst ++ (tl ++ own))) →
      wpAny (model prog w) A (execs body env) (InvPostG h₀ env.locals (KdS Led cst ps (fun nx c => ∃ tl, nx = cst ++ tl ∧ G tl c) x stored m₀ P adr (i + 1)) own { s with heap := h, toks := tk } Q) E { s with heap := h, toks := tk })
    (done : ∀ (c : σ) tl (u : Str → Option Value) h tk, OwnOff tl adr → G tl c → P vs.length c → Fr h₀ env.locals h (fun y => if y = x then u y else kstB (fun z => if stored.contains z then u z else m₀ z) (ps c) y) → News h₀ env.locals h (Led c ++ (cst ++ tl)) → Q .next { s with heap := h, toks := tk }) :
    wpAny (model prog w) A (pyIter (.ref l)) (fun it s₂ => LoopAtV prog w A h₀ env x body Q E it s₂) E s := by
  refine kdl_iter (news := Led c₀ ++ (cst ++ [])) (fun i m nx => KdS Led cst ps (fun nx c => ∃ tl, nx = cst ++ tl ∧ G tl c) x stored m₀ P adr i m nx) hh (List.mem_append.mpr (.inr (List.mem_append.mpr (.inl hl)))) F (fun p hp => N p (hn p hp))
    ⟨c₀, [], rfl, fun _ hp => (nomatch hp), ⟨[], rfl, hf⟩, hk, fun _ _ _ _ => rfl, hp⟩ ?_ ?_
  · rintro i v m₁ nx h tk own hv hoff _ ⟨c, tl, rfl, ht, ⟨tl', etl, hf'⟩, h1, h2, hp'⟩ F₁ N₁
    have etl' : tl = tl' := List.append_cancel_left etl
    subst etl'
    obtain ⟨o1, o2⟩ := kd_split (hadr c) hoff
    rw [List.append_assoc, List.append_assoc] at N₁
    refine wpAny_mono (turn c tl i v m₁ h tk own hv ⟨o1, o2, ht⟩ (kd_off o1 ht) hf' hp' (kst_fr h1 h2 F₁) N₁) (fun f s₂ p => ?_) fun _ _ x => x
    have up : InvEndG h₀ env.locals (KdS Led cst ps (fun nx c => ∃ tl, nx = cst ++ tl ∧ G tl c) x stored m₀ P adr (i + 1)) own { s with heap := h, toks := tk } s₂ →
        InvEndG h₀ env.locals (fun m' nx => (l, listOf vs.toArray nn) ∈ nx ∧ KdS Led cst ps (fun nx c => ∃ tl, nx = cst ++ tl ∧ G tl c) x stored m₀ P adr (i + 1) m' nx) own { s with heap := h, toks := tk } s₂ := by
      rintro ⟨h', tk', m', news', nx', e', F', N', hn', ho', ha, hS⟩
      refine ⟨h', tk', m', news', nx', e', F', N', hn', ho', ha, ?_, hS⟩
      obtain ⟨c', tl', rfl, _⟩ := hS
      exact List.mem_append.mpr (.inr (List.mem_append.mpr (.inl hl)))
    cases f with
    | ret v => exact p
    | brk => exact p
    | next => exact up p
    | cont => exact up p
  · rintro m₁ nx h tk ⟨c, tl, rfl, ht, ⟨tl', etl, hf'⟩, h1, h2, hp'⟩ F₁ N₁
    have etl' : tl = tl' := List.append_cancel_left etl
    subst etl'
    exact done c tl m₁ h tk ht hf' hp' (kst_frOut h1 h2 F₁) N₁
end

section
variable {σ τ : Type} {fv : σ → List Value} {fn : σ → Nat} {out : Addr} {cst : List (Addr × Obj)} {ps : σ → List (Str × Value)} {G : List (Addr × Obj) → σ → Prop} {x : Str} {stored : List Str} {m₀ : Str → Option Value} {P : τ → σ → Prop} {adr : List Addr} {pre : τ}
  {D : Addr} {o : Obj} {tl own news' : List (Addr × Obj)} {h₀ h' : Heap} {L : Addr} {m' : Str → Option Value} {s₁ : Shared} {tk : Nat}
/-- the end of a turn of a loop that fills one list, a turn that made one object -/
theorem out_end1 (c : σ)
    (h0 : KdSep own tl adr) (F : Fr h₀ L h' m') (N : News h₀ L h' news') (h1 : (out, listOf (fv c).toArray (fn c)) ∈ news') (h2 : (D, o) ∈ news') (hrest : ∀ p ∈ cst ++ (tl ++ own), p ∈ news') (hadr : out :: cst.map (·.1) = adr)
    (hlo : @LT.lt Nat _ out D) (hlr : AllLt D (cst ++ (tl ++ own))) (hk : ∀ p ∈ ps c, m' p.1 = some p.2) (hr : ∀ z, z ≠ x → (∀ p ∈ ps c, z ≠ p.1) → stored.contains z = false → m' z = m₀ z) (hf : G ((D, o) :: tl) c) (hp : P pre c) :
    InvEndG h₀ L (KdS (fun c => [(out, listOf (fv c).toArray (fn c))]) cst ps (fun nx c => ∃ tl, nx = cst ++ tl ∧ G tl c) x stored m₀ P adr pre) own s₁ { s₁ with heap := h', toks := tk } := by
  have hlt := ktn_ltOf hlr
  refine kd_end c [(D, o)] h0 F N (fun p hp => ?_) (fun p hp => hrest p (List.mem_append_right _ (List.mem_append_right _ hp))) hadr (fun q hq b hb' => ?_) (fun q hq p hp' => ?_) hk hr ⟨_, rfl, hf⟩ hp
  · rcases List.mem_append.mp hp with hp | hp
    · rw [List.mem_singleton.mp hp]; exact h1
    · rcases List.mem_append.mp hp with hp | hp
      · exact hrest p (List.mem_append_left _ hp)
      · rcases List.mem_cons.mp hp with rfl | hp
        · exact h2
        · exact hrest p (List.mem_append_right _ (List.mem_append_left _ hp))
  · rw [List.mem_singleton.mp hq]
    rw [← hadr] at hb'
    rcases List.mem_cons.mp hb' with rfl | hb'
    · exact Nat.ne_of_lt hlo
    · obtain ⟨p, hp', rfl⟩ := List.mem_map.mp hb'
      exact Nat.ne_of_lt (hlt p (List.mem_append_left _ hp'))
  · rw [List.mem_singleton.mp hq]
    exact Nat.ne_of_lt (hlt p (List.mem_append_right _ (List.mem_append_right _ hp')))
/-- .. a turn that made nothing -/
theorem out_end0 (c : σ)
    (h0 : KdSep own tl adr) (F : Fr h₀ L h' m') (N : News h₀ L h' news') (h1 : (out, listOf (fv c).toArray (fn c)) ∈ news') (hrest : ∀ p ∈ cst ++ (tl ++ own), p ∈ news') (hadr : out :: cst.map (·.1) = adr)
    (hk : ∀ p ∈ ps c, m' p.1 = some p.2) (hr : ∀ z, z ≠ x → (∀ p ∈ ps c, z ≠ p.1) → stored.contains z = false → m' z = m₀ z) (hf : G tl c) (hp : P pre c) :
    InvEndG h₀ L (KdS (fun c => [(out, listOf (fv c).toArray (fn c))]) cst ps (fun nx c => ∃ tl, nx = cst ++ tl ∧ G tl c) x stored m₀ P adr pre) own s₁ { s₁ with heap := h', toks := tk } := by
  refine kd_end c [] h0 F N (fun p hp => ?_) (fun p hp => hrest p (List.mem_append_right _ (List.mem_append_right _ hp))) hadr (fun q hq => nomatch hq) (fun q hq => nomatch hq) hk hr ⟨_, rfl, hf⟩ hp
  rcases List.mem_append.mp hp with hp | hp
  · rw [List.mem_singleton.mp hp]; exact h1
  · rcases List.mem_append.mp hp with hp | hp
    · exact hrest p (List.mem_append_left _ hp)
    · exact hrest p (List.mem_append_right _ (List.mem_append_left _ hp))
/-- the end of a turn that changes one object and makes nothing -/
theorem obj_end0 {fo : σ → Obj} (c : σ)
    (h0 : KdSep own tl adr) (F : Fr h₀ L h' m') (N : News h₀ L h' news') (h1 : (out, fo c) ∈ news') (hrest : ∀ p ∈ cst ++ (tl ++ own), p ∈ news') (hadr : out :: cst.map (·.1) = adr)
    (hk : ∀ p ∈ ps c, m' p.1 = some p.2) (hr : ∀ z, z ≠ x → (∀ p ∈ ps c, z ≠ p.1) → stored.contains z = false → m' z = m₀ z) (hf : G tl c) (hp : P pre c) :
    InvEndG h₀ L (KdS (fun c => [(out, fo c)]) cst ps (fun nx c => ∃ tl, nx = cst ++ tl ∧ G tl c) x stored m₀ P adr pre) own s₁ { s₁ with heap := h', toks := tk } := by
  refine kd_end c [] h0 F N (fun p hp => ?_) (fun p hp => hrest p (List.mem_append_right _ (List.mem_append_right _ hp))) hadr (fun q hq => nomatch hq) (fun q hq => nomatch hq) hk hr ⟨_, rfl, hf⟩ hp
  rcases List.mem_append.mp hp with hp | hp
  · rw [List.mem_singleton.mp hp]; exact h1
  · rcases List.mem_append.mp hp with hp | hp
    · exact hrest p (List.mem_append_left _ hp)
    · exact hrest p (List.mem_append_right _ (List.mem_append_left _ hp))
/-- the end of a turn that changes nothing that stood and made tl2 -/
theorem ret_end (c : σ) {tl2 : List (Addr × Obj)}
    (h0 : KdSep own tl adr) (F : Fr h₀ L h' m') (N : News h₀ L h' news') (hrest : ∀ p ∈ cst ++ (tl ++ own), p ∈ news') (h2 : ∀ p ∈ tl2, p ∈ news') (hadr : cst.map (·.1) = adr)
    (off : ∀ q ∈ cst ++ (tl ++ own), ∀ p ∈ tl2, p.1 ≠ q.1) (hk : ∀ p ∈ ps c, m' p.1 = some p.2) (hr : ∀ z, z ≠ x → (∀ p ∈ ps c, z ≠ p.1) → stored.contains z = false → m' z = m₀ z) (hf : G (tl2 ++ tl) c) (hp : P pre c) :
    InvEndG h₀ L (KdS (fun _ => []) cst ps (fun nx c => ∃ tl, nx = cst ++ tl ∧ G tl c) x stored m₀ P adr pre) own s₁ { s₁ with heap := h', toks := tk } := by
  refine kd_end c tl2 h0 F N (fun p hp => ?_) (fun p hp => hrest p (List.mem_append_right _ (List.mem_append_right _ hp))) hadr (fun q hq b hb' => ?_) (fun q hq p hp' => ?_) hk hr ⟨_, rfl, hf⟩ hp
  · rw [List.nil_append] at hp
    rcases List.mem_append.mp hp with hp | hp
    · exact hrest p (List.mem_append_left _ hp)
    · rcases List.mem_append.mp hp with hp | hp
      · exact h2 p hp
      · exact hrest p (List.mem_append_right _ (List.mem_append_left _ hp))
  · rw [← hadr] at hb'
    obtain ⟨p, hp', rfl⟩ := List.mem_map.mp hb'
    exact Ne.symm (off p (List.mem_append_left _ hp') q hq)
  · exact Ne.symm (off p (List.mem_append_right _ (List.mem_append_right _ hp')) q hq)
/-- the end of a turn that fills one list and made tl2 (the library's Facts) -/
theorem out_endN {Facts : List (Addr × Obj) → σ → Prop} (c : σ) {tl2 : List (Addr × Obj)}
    (h0 : KdSep own tl adr) (F : Fr h₀ L h' m') (N : News h₀ L h' news') (h1 : (out, listOf (fv c).toArray (fn c)) ∈ news') (hrest : ∀ p ∈ cst ++ (tl ++ own), p ∈ news') (h2 : ∀ p ∈ tl2, p ∈ news') (hadr : out :: cst.map (·.1) = adr)
    (offo : ∀ p ∈ tl2, p.1 ≠ out) (off : ∀ q ∈ cst ++ (tl ++ own), ∀ p ∈ tl2, p.1 ≠ q.1) (hk : ∀ p ∈ ps c, m' p.1 = some p.2) (hr : ∀ z, z ≠ x → (∀ p ∈ ps c, z ≠ p.1) → stored.contains z = false → m' z = m₀ z) (hf : Facts (cst ++ (tl2 ++ tl)) c) (hp : P pre c) :
    InvEndG h₀ L (KdS (fun c => [(out, listOf (fv c).toArray (fn c))]) cst ps Facts x stored m₀ P adr pre) own s₁ { s₁ with heap := h', toks := tk } := by
  refine kd_end c tl2 h0 F N (fun p hp => ?_) (fun p hp => hrest p (List.mem_append_right _ (List.mem_append_right _ hp))) hadr (fun q hq b hb' => ?_) (fun q hq p hp' => ?_) hk hr hf hp
  · rcases List.mem_append.mp hp with hp | hp
    · rw [List.mem_singleton.mp hp]; exact h1
    · rcases List.mem_append.mp hp with hp | hp
      · exact hrest p (List.mem_append_left _ hp)
      · rcases List.mem_append.mp hp with hp | hp
        · exact h2 p hp
        · exact hrest p (List.mem_append_right _ (List.mem_append_left _ hp))
  · rw [← hadr] at hb'
    rcases List.mem_cons.mp hb' with rfl | hb'
    · exact Ne.symm (offo q hq)
    · obtain ⟨p, hp', rfl⟩ := List.mem_map.mp hb'
      exact Ne.symm (off p (List.mem_append_left _ hp') q hq)
  · exact Ne.symm (off p (List.mem_append_right _ (List.mem_append_right _ hp')) q hq)
end
end Mine
end

section
open PySem PySem.W PyProof.Rows PySem.Calls PySem.Spec
set_option maxHeartbeats 8000000
namespace Mine
local macro_rules | `(tactic| k_all) => `(tactic| assumption)

local macro_rules | `(tactic| ktr_enter) => `(tactic| (refine' code_defC ?k1 ?k2 ?k3 ?k4 ?k5 ?kA ?kF ?kK ?k6 ?k7 ?k8 ?k9 ?kB ?kD ?_ ?c2 ?c3 ?c4; (case kA => exact rfl); (case kF => exact rfl); (case kK => assumption); (case k1 => k_asm); (case k2 => k_asm); (case k3 => k_asm); (case k4 => k_asm); (case k5 => k_asm); (case k6 => k_is); (case k7 => k_is); (case k8 => ktr_room); (case k9 => exact BindsTo.of_eq rfl); (case kB => exact rfl); (case kD => decide +kernel); (case c2 => exact rfl); (case c3 => exact rfl); (case c4 => exact rfl); k_whole; intro g' L' h' tk' cells' FG' F' N' Y' B' X' T' l1; k_cells Y'; (try simp only [List.cons_append, List.nil_append] at N'); (try dsimp only); (try k_fold)))
theorem del_ct (w : World) (mean : ExcName → Option Value) (mg mb : Str → Option Value) :
    Says (δ := List (Int × Int) × Int) PySem.Challenge.rw_k16_0030.row.prog w (hd.heap_39 w.params) hd.view_39 (looseW hd.view_39 []) mean mg mb 4 19
      (fun _ nw vs d => ∃ pl ws n t1, vs = [.ref pl, .int d.2 t1] ∧ (pl, listOf (List.toArray ws) n) ∈ nw ∧ DatAll nw ws (d.1.map pairD) ∧ d.1.length ≤ 50)
      (fun nw tl r d => ∃ ga gv gn, r = .ref ga ∧ (ga, listOf (List.toArray gv) gn) ∈ tl ∧ DatAll nw gv ((mdel d.1 d.2).map pairD)) := by
  k_fill
  w_top off
  unfold Says
  intro dp un gd cn cs a ccd cl outer A₀ base h₀ L m news nw s vs d Q E B F X N T hk hsub hPre hd hu hret
  obtain ⟨pl, ws, n, t1, rfl, hpl, hws, hlen⟩ := hPre
  obtain ⟨ps, k⟩ := d
  dsimp only at *
  have hwl := hws.length
  rw [List.length_map] at hwl
  have hpn := hsub _ hpl
  refine wpAny_call ?_
  k_dflt ktr_enter
  rename News _ _ _ _ => lN
  rename (∀ p : Addr × Obj, p ∈ news → p.1 < _) => hlt
  rename Obj => oc
  rename (Obj.data _ = Data.cell _) => hcell
  rename_i g1 L1 h1 tk1 FG1 F1 B1 X1 T1
  replace hcell : oc.data = .cell (some (.int k t1)) := hcell
  walk1
  walk1
  k_dflt (refine LCt.ListComp_T (F₀ := by k_asm) (by with_unfolding_all rfl) (by decide) (by rfl) (by decide) (by rfl) ?_)
  walk1
  refine LCt.CompSrcT.ledger (by rfl) (by k_asm) (by k_asm) (List.Mem.tail _ hpn) ?_ ?_
  · rw [List.size_toArray, PySem.sizeLine_eq]; omega
  intro g'
  refine comp_inv (fun i ys nx => nx = (L1 + 1, oc) :: news ∧ DatAll nw ys ((mdel (ps.take i) k).map pairD)) ⟨rfl, .nil⟩ ?_ ?_
  · rintro i v I oI C oC D m₂ ys nx h tk E' hi hv ⟨rfl, hys⟩ hC hx F2 N2 off ne
    obtain ⟨q, hq, hD'⟩ := all_get hws (by simpa using hv)
    have ht : mdel (ps.take (i + 1)) k = mdel (ps.take i) k ++ (if decide (q.1 ≠ k) = true then [q] else []) := by
      unfold mdel
      rw [take_snoc hq, List.filter_append]
      simp [List.filter_cons]
    obtain ⟨qa, qn, qt, qu, rfl, hqm⟩ := pair_inv hD'
    have hqn := hsub _ hqm
    have N3 := kst_newsOf (l' := (I, oI) :: (C, oC) :: (D, LCg.lst ys) :: (L1 + 1, oc) :: (qa, ({ cls := .type "tuple", data := .seq #[.int q.1 qt, .int q.2 qu] qn } : Obj)) :: news) N2 (by
      intro p hp
      simp only [List.mem_cons] at hp ⊢
      rcases hp with hp | hp | hp | hp | hp | hp
      · exact .inl hp
      · exact .inr (.inl hp)
      · exact .inr (.inr (.inl hp))
      · exact .inr (.inr (.inr (.inl hp)))
      · subst hp; exact .inr (.inr (.inr (.inr hqn)))
      · exact .inr (.inr (.inr (.inr hp))))
    clear N2
    k_steps
    · refine LCg.CompEnd.intro (by assumption) N3 ((L1 + 1, oc) :: news) ?_ off (.inr ⟨_, .tail _ hpn, rfl, _, rfl⟩) ⟨rfl, ?_⟩
      · exact fun p hp => (List.mem_cons.mp hp).elim (fun e => e ▸ .head _) fun hp => .tail _ ((List.mem_cons.mp hp).elim (fun e => e ▸ .head _) fun hp => .tail _ ((List.mem_cons.mp hp).elim (fun e => e ▸ .head _) fun hp => .tail _ ((List.mem_cons.mp hp).elim (fun e => e ▸ .head _) fun hp => .tail _ (.tail _ hp))))
      · rw [ht, if_pos (decide_eq_true (by assumption))]
        exact snocD hys (fun _ h => h) hD'
    · refine LCg.CompEnd.intro (by assumption) N3 ((L1 + 1, oc) :: news) ?_ off (.inr ⟨_, .tail _ hpn, rfl, _, rfl⟩) ⟨rfl, ?_⟩
      · exact fun p hp => (List.mem_cons.mp hp).elim (fun e => e ▸ .head _) fun hp => .tail _ ((List.mem_cons.mp hp).elim (fun e => e ▸ .head _) fun hp => .tail _ ((List.mem_cons.mp hp).elim (fun e => e ▸ .head _) fun hp => .tail _ ((List.mem_cons.mp hp).elim (fun e => e ▸ .head _) fun hp => .tail _ (.tail _ hp))))
      · rw [ht, if_neg (by simp; assumption), List.append_nil]
        exact hys
  · rintro ys nx ⟨rfl, hys⟩
    intro D h9 tk9 F9 N9 off9
    clear lN F1
    (try dsimp only)
    k_steps
    rename News h₀ _ _ _ => lN
    refine hret _ [(D, LCg.lst ys)] _ _ (by assumption) (kst_newsOf lN fun p hp => ?_) (fun q hq p hp => ?_) ?_
    · rcases List.mem_cons.mp (front1 p hp) with rfl | hp
      · exact .head _
      · exact .tail _ (.tail _ hp)
    · rw [List.mem_singleton.mp hp]
      exact Ne.symm (off1_mem off9 q (.tail _ hq))
    · have e : mdel (ps.take ws.toArray.size) k = mdel ps k := by
        rw [List.size_toArray, hwl, List.take_length]
      rw [e] at hys
      exact ⟨D, ys, _, rfl, .head _, hys⟩
end Mine
end

section
open PySem PySem.W PyProof.Rows PySem.Calls PySem.Spec
set_option maxHeartbeats 8000000
namespace Mine
def Hold (p : Prop) : Prop := p
theorem hold {p : Prop} (h : Hold p) : p := h
section
variable {prog : Program} {w : World} {A : Around} {E : Value → Shared → Prop} {s : Shared} {h₀ : Heap} {L a b : Addr} {m : Str → Option Value} {news n₁ n₂ : List (Addr × Obj)} {xs ys : List Value} {ka kb : Nat} {ds : List Dat} {Q : Value → Shared → Prop}
theorem ne_same (N : News h₀ L s.heap news) (ma : (a, listOf xs.toArray ka) ∈ news) (Da : DatAll n₁ xs ds) (sa : ∀ p ∈ n₁, p ∈ news) (mb : (b, listOf ys.toArray kb) ∈ news) (Db : DatAll n₂ ys ds) (sb : ∀ p ∈ n₂, p ∈ news)
    (ha : ∀ d ∈ ds, kqdOk 8 d = true) (hu : A.units + 64 < cLine) (h : Q (.bool false) s) : wpAny (model prog w) A (compareOp .NotEq (.ref a) (.ref b)) Q E s :=
  kqd_ne N ma rfl rfl Da sa mb rfl rfl Db sb ha ha hu (by simpa using h)
theorem cat_data (F : Fr h₀ L s.heap m) (N : News h₀ L s.heap news) (ma : (a, listOf xs.toArray ka) ∈ news) (mb : (b, listOf ys.toArray kb) ∈ news) (hz : xs.length + ys.length ≤ 1000)
    (h : ∀ D h', Fr h₀ L h' m → News h₀ L h' ((D, listOf (xs ++ ys).toArray 0) :: news) → (∀ p ∈ news, p.1 < D) → Q (.ref D) { s with heap := h' }) : wpAny (model prog w) A (binaryOp .Add (.ref a) (.ref b)) Q E s :=
  kmk_add_lit F N ⟨_, (N _ ma).1, rfl, ka, rfl⟩ ⟨_, (N _ mb).1, rfl, kb, rfl⟩ (by simp) h (by simp only [sizeLine_eq]; omega)
end
section
variable {σ τ : Type} {cst : List (Addr × Obj)} {ps : σ → List (Str × Value)} {Facts : List (Addr × Obj) → σ → Prop} {x : Str} {stored : List Str} {m₀ : Str → Option Value} {P : τ → σ → Prop} {adr : List Addr} {pre : τ}
  {tl own news' : List (Addr × Obj)} {h₀ h' : Heap} {L : Addr} {m' : Str → Option Value} {s₁ : Shared} {tk : Nat}
theorem ret_endF (c : σ) {tl2 : List (Addr × Obj)}
    (h0 : KdSep own tl adr) (F : Fr h₀ L h' m') (N : News h₀ L h' news') (hrest : ∀ p ∈ cst ++ (tl ++ own), p ∈ news') (h2 : ∀ p ∈ tl2, p ∈ news') (hadr : cst.map (·.1) = adr)
    (off : ∀ q ∈ cst ++ (tl ++ own), ∀ p ∈ tl2, p.1 ≠ q.1) (hk : ∀ p ∈ ps c, m' p.1 = some p.2) (hr : ∀ z, z ≠ x → (∀ p ∈ ps c, z ≠ p.1) → stored.contains z = false → m' z = m₀ z) (hf : Facts (cst ++ (tl2 ++ tl)) c) (hp : P pre c) :
    InvEndG h₀ L (KdS (fun _ => []) cst ps Facts x stored m₀ P adr pre) own s₁ { s₁ with heap := h', toks := tk } := by
  refine kd_end c tl2 h0 F N (fun p hp => ?_) (fun p hp => hrest p (List.mem_append_right _ (List.mem_append_right _ hp))) hadr (fun q hq b hb' => ?_) (fun q hq p hp' => ?_) hk hr hf hp
  · rw [List.nil_append] at hp
    rcases List.mem_append.mp hp with hp | hp
    · exact hrest p (List.mem_append_left _ hp)
    · rcases List.mem_append.mp hp with hp | hp
      · exact h2 p hp
      · exact hrest p (List.mem_append_right _ (List.mem_append_left _ hp))
  · rw [← hadr] at hb'
    obtain ⟨p, hp', rfl⟩ := List.mem_map.mp hb'
    exact Ne.symm (off p (List.mem_append_left _ hp') q hq)
  · exact Ne.symm (off p (List.mem_append_right _ (List.mem_append_right _ hp')) q hq)
end
theorem sub1 {e : Addr × Obj} {tl news : List (Addr × Obj)} (h1 : e ∈ news) (h3 : ∀ p ∈ tl, p ∈ news) : ∀ p ∈ e :: tl, p ∈ news := fun p hp => (List.mem_cons.mp hp).elim (fun q => q ▸ h1) (h3 p)
theorem name_all {h₀ h : Heap} {L : Addr} {l : List (Addr × Obj)} (N : News h₀ L h l) : ∃ c, l = c ∧ News h₀ L h c := ⟨l, rfl, N⟩
theorem drop_one {D : Addr} {vs : Array Value} {n : Nat} {c : List (Addr × Obj)} {v : Value} {q : Int × Int} (h : DatIn ((D, PySem.W.listOf vs n) :: c) v (pairD q)) : DatIn c v (pairD q) := by
  obtain ⟨a, k, t, u, rfl, hm⟩ := pair_inv h
  rcases List.mem_cons.mp hm with e | hm
  · have e2 := congrArg (fun p : Addr × Obj => p.2.cls) e
    exact absurd e2 (by simp)
  · exact pair_in hm
theorem drop_list {D : Addr} {vs : Array Value} {n : Nat} {c : List (Addr × Obj)} : ∀ {l : List (Int × Int)} {xs : List Value}, DatAll ((D, PySem.W.listOf vs n) :: c) xs (l.map pairD) → DatAll c xs (l.map pairD)
  | [], _, h => by cases h; exact .nil
  | _ :: _, _, h => by
    cases h with
    | cons h1 h2 => exact .cons (drop_one h1) (drop_list h2)
theorem pairs_ok (ds : List (Int × Int)) : ∀ d ∈ ds.map pairD, kqdOk 8 d = true := by
  intro d hd
  obtain ⟨q, _, rfl⟩ := List.mem_map.mp hd
  rfl
end Mine
open Mine
local macro_rules | `(tactic| k_all) => `(tactic| assumption)
local macro_rules | `(tactic| walk_at "pyIter ref") => `(tactic| refine hold ?_)
local macro_rules | `(tactic| walk_at "call type:range") => `(tactic| ((rename Fr _ _ _ _ => F'); (rename News _ _ _ _ => N'); (with_unfolding_all refine range1_rows F' N' ?_; intro _ _ _ _ _ _ _ _ _)))
local macro_rules | `(tactic| walk_at "exec For Name Call cons nil") => `(tactic| ((rename Fr _ _ _ _ => lF'); (with_unfolding_all refine' For_invVF lF' ?k1 ?k2 ?_; (case k1 => exact rfl); (case k2 => exact rfl))))
local macro_rules | `(tactic| walk_at "compareOp NotEq ref ref") => `(tactic| refine hold ?_)
local macro_rules | `(tactic| walk_at "binaryOp Add ref ref") => `(tactic| refine hold ?_)
local macro_rules | `(tactic| walk_at "call ref") => `(tactic| ((with_reducible show wpAny _ _ (call (Value.ref 19) _) _ _ _); refine hold ?_))
theorem PySem.Challenge.cw_k16_0030_holds : PySem.Challenge.rw_k16_0030.Holds := by
  refine Mine.hd ?_
  k_go0; (all_goals try k_fold)
  rename_i w s₀ s₁ mg mb G Y fa o pm doc kV ho hg KX X V GL T B TE TW w9 w8 M w7 w6 hcd ns hs hlay0 hL1 hr1 hl2 w4 w3 l vs0 as hL ra w1 r0 hI hr hc1 hc K0 hD h1 F N0
  have hns : ns.length ≤ 63 := by omega
  k_steps
  unfold Hold
  rename IsRange _ _ _ _ _ _ _ _ => hR
  rename Fr _ _ _ _ => lF
  rename News _ _ _ _ => lN
  rename_i t0 _ _ _ left0 _ _ _ _ _ _ _ _ _ _ _ _ _
  have hx0 := fmod_lo (cellAt ns 1 0) (n := 4) (by decide)
  have hx1 := fmod_hi (cellAt ns 1 0) (n := 4) (by decide)
  generalize (cellAt ns 1 0).fmod 4 = x at hx0 hx1 hR
  refine kd_range (σ := Int × Tok × Value × List (Int × Int)) (n := x.toNat) (fun c => []) [(left0, PySem.W.listOf #[] 0)] (fun c => [(Str.ofString "at", .int c.1 c.2.1), (Str.ofString "left", c.2.2.1)]) (fun nx c => DatIn nx c.2.2.1 (.list (c.2.2.2.map pairD))) []
    (fun pre c => c.1 ≤ cellAt ns 0 0 ∧ c.2.2.2.length = pre.length ∧ ∀ p ∈ c.2.2.2, p.1 < cellAt ns 0 0) [left0]
    (cellAt ns 0 0, t0, .ref left0, []) rfl hR (small_one (by omega) (by omega) (by omega) (by omega)) (by rw [rangeSize_nat]; congr 1; omega) lF lN (by simp) (fun _ => rfl) (.list (.head _) .nil) (by kst_all) ⟨Int.le_refl _, rfl, fun _ h => nomatch h⟩ ?_ ?_
  · rintro ⟨av, at1, lv, ps⟩ tl pre k t u h tk own hk hpre hsep hoff hfa ⟨hP1, hP2, hP3⟩ F1 N1
    dsimp only at *
    clear lF lN
    obtain ⟨la, lvs, ln, rfl, hlm, hld⟩ := list_inv hfa
    obtain ⟨rest, hrest⟩ : ∃ rest, rest = [(left0, PySem.W.listOf #[] 0)] ++ (tl ++ own) := ⟨_, rfl⟩
    rw [List.nil_append, ← hrest] at N1
    have hsr : ∀ p ∈ [(left0, PySem.W.listOf #[] 0)] ++ tl, p ∈ rest := fun p hp => by
      rw [hrest, ← List.append_assoc]; exact List.mem_append_left _ hp
    have hlr := hsr _ hlm
    have hll : lvs.length ≤ 10 := by
      have e := hld.length
      rw [List.length_map] at e
      omega
    k_steps
    unfold Hold
    rename (∀ p : Addr × Obj, p ∈ rest → p.1 < _) => hA1
    rename (_ ∧ AllLt _ rest) => hA2
    obtain ⟨hA3, hA4⟩ := hA2
    refine cat_data (by k_asm) (by k_asm) (.head _) (.tail _ (.tail _ hlr)) (by simp; omega) ?_
    intro D9 h9 F9 N9 l9
    (try dsimp only)
    k_steps
    rename News _ _ _ _ => lN
    subst hrest
    refine' ret_endF (av - 1 - (cellAt ns (4 + k) 0).fmod 3, _, .ref D9, (av - 1 - (cellAt ns (4 + k) 0).fmod 3, cellAt ns (5 + k) 0) :: ps) (tl2 := [_, _, _]) hsep (by assumption) lN (fun p hp => .tail _ (.tail _ (.tail _ hp))) (sub1 (.head _) (sub1 (.tail _ (.head _)) (sub1 (.tail _ (.tail _ (.head _))) (fun _ h => nomatch h)))) (by rfl) ?_ (by kst_all) (by intro z h1 h2 h3; simp only [List.forall_mem_cons, List.not_mem_nil, false_implies, implies_true, and_true, ne_eq] at h2; obtain ⟨h2a, h2b⟩ := h2; simp only [kstB, h1, h2a, h2b, if_false, List.contains_nil, Bool.false_eq_true]) ?_ ⟨?_, ?_, ?_⟩
    · intro q hq p hp
      rcases List.mem_cons.mp hp with rfl | hp
      · exact Nat.ne_of_gt (l9 q (.tail _ (.tail _ hq)))
      · rcases List.mem_cons.mp hp with rfl | hp
        · exact Nat.ne_of_gt (ktn_ltOf hA4 q hq)
        · rw [List.mem_singleton.mp hp]
          exact Nat.ne_of_gt (hA1 q hq)
    · refine .list (List.mem_append_right _ (.head _)) (.cons (pair_in (List.mem_append_right _ (.tail _ (.tail _ (.head _))))) (hld.mono ?_))
      exact sub_mid
    · have h3 := fmod_lo (cellAt ns (4 + k) 0) (n := 3) (by decide)
      dsimp only
      omega
    · simp [hP2]
    · have h3 := fmod_lo (cellAt ns (4 + k) 0) (n := 3) (by decide)
      intro p hp
      rcases List.mem_cons.mp hp with rfl | hp
      · dsimp only; omega
      · exact hP3 p hp
  · rintro ⟨av, at1, lv, ps⟩ tl u h tk hoff hfa ⟨hP1, hP2, hP3⟩ F1 N1
    dsimp only at *
    clear lF lN
    obtain ⟨la, lvs, ln, rfl, hlm, hld⟩ := list_inv hfa
    rw [List.nil_append] at N1
    have hll : lvs.length ≤ 10 := by
      have e := hld.length
      rw [List.length_map] at e
      rw [rangeKs_length] at hP2
      omega
    obtain ⟨c1, hc1⟩ : ∃ c1, c1 = [(left0, PySem.W.listOf #[] 0)] ++ tl := ⟨_, rfl⟩
    rw [← hc1] at N1 hlm hld
    clear hfa hoff
    k_steps
    unfold Hold
    rename IsRange _ _ _ _ _ _ _ _ => hR2
    rename Fr _ _ _ _ => lF
    rename News _ _ _ _ => lN
    rename (∀ p : Addr × Obj, p ∈ c1 → p.1 < _) => hlt
    rename_i r0 _ _ _ _ _ _ _ _ _ _ _ _ _ _
    have hy0 := fmod_lo (cellAt ns 2 0) (n := 4) (by decide)
    have hy1 := fmod_hi (cellAt ns 2 0) (n := 4) (by decide)
    generalize (cellAt ns 2 0).fmod 4 = y at hy0 hy1 hR2
    refine kd_range (σ := Int × Tok × List Value × Nat × List (Int × Int)) (n := y.toNat) (fun c => [(r0, PySem.W.listOf c.2.2.1.toArray c.2.2.2.1)]) c1 (fun c => [(Str.ofString "at", .int c.1 c.2.1)]) (fun nx c => DatAll nx c.2.2.1 (c.2.2.2.2.map pairD)) []
      (fun pre c => cellAt ns 0 0 ≤ c.1 ∧ c.2.2.2.2.length = pre.length ∧ ∀ p ∈ c.2.2.2.2, cellAt ns 0 0 < p.1) (r0 :: c1.map (·.1))
      (cellAt ns 0 0, t0, [], 0, []) rfl hR2 (small_one (by omega) (by omega) (by omega) (by omega)) (by rw [rangeSize_nat]; congr 1; omega) lF lN (by simp) (fun _ => rfl) .nil (by kst_all) ⟨Int.le_refl _, rfl, fun _ h => nomatch h⟩ ?_ ?_
    · rintro ⟨bv, bt, rv, rn, rs⟩ tl2 pre k t u h tk own hk hpre hsep hoff hfa ⟨hR1, hR3, hR4⟩ F1 N1
      dsimp only at *
      clear lF lN
      obtain ⟨rest, hrest⟩ : ∃ rest, rest = c1 ++ (tl2 ++ own) := ⟨_, rfl⟩
      have hne : ∀ p ∈ rest, p.1 ≠ r0 := by
        intro p hp
        rw [hrest] at hp
        rcases List.mem_append.mp hp with hp | hp
        · exact Nat.ne_of_lt (hlt p hp)
        · exact hoff p hp r0 (by simp)
      have hrl : rv.length ≤ 10 := by
        have e := hfa.length
        rw [List.length_map] at e
        omega
      rw [List.singleton_append, ← hrest] at N1
      k_steps
      rename (_ ∧ AllLt _ rest) => hA2
      obtain ⟨hA3, hA4⟩ := hA2
      rename News _ _ _ _ => lN
      simp only [List.push_toArray] at lN
      subst hrest
      refine' out_endN (bv + 1 + (cellAt ns (7 + k) 0).fmod 3, _, _, _, rs ++ [(bv + 1 + (cellAt ns (7 + k) 0).fmod 3, cellAt ns 0 0 + (cellAt ns (8 + k) 0).fmod 2)]) (tl2 := [_]) hsep (by assumption) lN (.tail _ (.head _)) (fun p hp => .tail _ (.tail _ hp)) (sub1 (.head _) (fun _ h => nomatch h)) (by rfl) (fun p hp => by rw [List.mem_singleton.mp hp]; exact Nat.ne_of_gt hA3) (fun q hq p hp => by rw [List.mem_singleton.mp hp]; exact Nat.ne_of_gt (ktn_ltOf hA4 q hq)) (by kst_all) (by intro z h1 h2 h3; simp only [List.forall_mem_cons, List.not_mem_nil, false_implies, implies_true, and_true, ne_eq] at h2; simp only [kstB, h1, h2, if_false, List.contains_nil, Bool.false_eq_true]) ?_ ⟨?_, ?_, ?_⟩
      · exact snocD hfa sub_mid (pair_in (List.mem_append_right _ (.head _)))
      · have h3 := fmod_lo (cellAt ns (7 + k) 0) (n := 3) (by decide)
        dsimp only
        omega
      · simp [hR3]
      · have h3 := fmod_lo (cellAt ns (7 + k) 0) (n := 3) (by decide)
        intro p hp
        rcases List.mem_append.mp hp with hp | hp
        · exact hR4 p hp
        · rw [List.mem_singleton.mp hp]
          dsimp only
          omega
    · rintro ⟨bv, bt, rv, rn, rs⟩ tl2 u h tk hoff hfa ⟨hR1, hR3, hR4⟩ F1 N1
      dsimp only at *
      clear lF lN
      have hrl : rv.length ≤ 10 := by
        have e := hfa.length
        rw [List.length_map] at e
        rw [rangeKs_length] at hR3
        omega
      have hne : ∀ p ∈ c1 ++ tl2, p.1 ≠ r0 := by
        intro p hp
        rcases List.mem_append.mp hp with hp | hp
        · exact Nat.ne_of_lt (hlt p hp)
        · exact hoff p hp r0 (by simp)
      obtain ⟨c2, hc2⟩ : ∃ c2, c2 = c1 ++ tl2 := ⟨_, rfl⟩
      have hs12 : ∀ p ∈ c1, p ∈ c2 := fun p hp => by rw [hc2]; exact List.mem_append_left _ hp
      rw [List.singleton_append, ← hc2] at N1
      rw [← hc2] at hfa hne
      replace hlm := hs12 _ hlm
      replace hld := hld.mono hs12
      clear hoff hlt
      k_steps
      · unfold Hold
        rename News _ _ _ _ => lN
        obtain ⟨c3, hc3, N3⟩ := name_all lN
        clear lN
        rename_i Dt _ _ mm _ _ _ _
        have hs23 : ∀ p ∈ c2, p ∈ c3 := fun p hp => by rw [← hc3]; exact .tail _ (.tail _ (.tail _ (.tail _ hp)))
        have hRm : (r0, PySem.W.listOf rv.toArray rn) ∈ c3 := by rw [← hc3]; exact .tail _ (.tail _ (.tail _ (.head _)))
        obtain ⟨mv, mn, ms, hMm, hMd, hMk, hMl⟩ : ∃ mv mn ms, (mm, PySem.W.listOf (List.toArray mv) mn) ∈ c3 ∧ DatAll c3 mv (List.map pairD ms) ∧ (∀ p ∈ ms, p.1 = cellAt ns 0 0) ∧ mv.length ≤ 10 :=
          ⟨[Value.ref Dt], 0, [(cellAt ns 0 0 - 1 + 1, cellAt ns 4 0)], by rw [← hc3]; exact .head _, by rw [← hc3]; exact .cons (pair_in (.tail _ (.head _))) .nil, by intro p hp; rw [List.mem_singleton.mp hp]; dsimp only; omega, by simp⟩
        clear hc3
        have hLm := hs23 _ hlm
        have hLd := hld.mono hs23
        have hRd := hfa.mono hs23
        have hpl : ps.length ≤ 10 := by have e := hld.length; rw [List.length_map] at e; omega
        have hrl2 : rs.length ≤ 10 := by have e := hfa.length; rw [List.length_map] at e; omega
        have hml2 : ms.length ≤ 10 := by have e := hMd.length; rw [List.length_map] at e; omega
        have hDall : DatAll c3 (lvs ++ mv ++ rv) ((ps ++ ms ++ rs).map pairD) := by rw [List.map_append, List.map_append]; exact (hLd.append hMd).append hRd
        have hWant : DatAll c3 (lvs ++ rv) ((ps ++ rs).map pairD) := by rw [List.map_append]; exact hLd.append hRd
        have hDall2 : DatAll c3 (lvs ++ (mv ++ rv)) ((ps ++ ms ++ rs).map pairD) := by rw [← List.append_assoc]; exact hDall
        have hLaw := mdel_law hP3 hMk hR4
        have hLaw2 := mdel_law2 hP3 hR4
        clear hs23 hlm hld hfa hne
        (try dsimp only)
        refine cat_data (by k_asm) (by k_asm) hLm hMm (by (try simp only [List.length_append]); omega) ?_
        intro D1 g1 G1 N1 l1
        (try dsimp only)
        k_steps
        unfold Hold
        refine cat_data (by k_asm) (by k_asm) (.head _) (.tail _ hRm) (by (try simp only [List.length_append]); omega) ?_
        intro D2 g2 G2 N2 l2
        have d12 : @LT.lt Nat _ D1 D2 := l2 _ (.head _)
        have dc2 : ∀ p ∈ c3, p.1 < D2 := fun p hp => l2 p (.tail _ hp)
        (try dsimp only)
        k_steps
        unfold Hold
        refine cat_data (by k_asm) (by k_asm) (.tail _ (.tail _ (hLm))) (.tail _ (.tail _ (hMm))) (by (try simp only [List.length_append]); omega) ?_
        intro D3 g3 G3 N3 l3
        have d23 : @LT.lt Nat _ D2 D3 := l3 _ (.head _)
        (try dsimp only)
        k_steps
        unfold Hold
        refine cat_data (by k_asm) (by k_asm) (.head _) (.tail _ (.tail _ (.tail _ (hRm)))) (by (try simp only [List.length_append]); omega) ?_
        intro D4 g4 G4 N4 l4
        have d34 : @LT.lt Nat _ D3 D4 := l4 _ (.head _)
        (try dsimp only)
        k_steps
        unfold Hold
        refine cat_data (by k_asm) (by k_asm) (.tail _ (.tail _ (.tail _ (.tail _ (hLm))))) (.tail _ (.tail _ (.tail _ (.tail _ (hRm))))) (by (try simp only [List.length_append]); omega) ?_
        intro D5 g5 G5 N5 l5
        have d45 : @LT.lt Nat _ D4 D5 := l5 _ (.head _)
        clear l1 l2 l3 l4 l5
        (try dsimp only)
        k_steps
        unfold Hold
        refine' says_use (del_ct w _ mg mb) (ps ++ ms ++ rs, cellAt ns 0 0) ((D2, PySem.W.listOf (lvs ++ mv ++ rv).toArray 0) :: c3) ?k1 ?k2 ?k3 ?k4 ?k5 ?k6 ?k7 ?k8 ?k9 ?k10 ?_
        (case k1 => k_asm)
        (case k2 => k_asm)
        (case k3 => k_asm)
        (case k4 => k_asm)
        (case k5 => k_asm)
        (case k6 => exact rfl)
        (case k7 => exact sub1 (.tail _ (.tail _ (.tail _ (.head _)))) (fun p hp => (.tail _ (.tail _ (.tail _ (.tail _ (.tail _ (hp))))))))
        (case k8 => exact ⟨D2, _, _, _, rfl, .head _, hDall.mono (fun _ h => .tail _ h), by simp only [List.length_append]; omega⟩)
        (case k9 => exact Nat.le_of_ble_eq_true rfl)
        (case k10 => exact Nat.le_of_ble_eq_true rfl)
        intro r9 tl9 h9 tk9 F9 N9 off9 ho9
        obtain ⟨ga, gv, gn, rfl, hgm, hgd⟩ := ho9
        replace hgd := drop_list hgd
        rw [hLaw] at hgd
        have hoff2 : ∀ p ∈ tl9, p.1 ≠ D2 := fun p hp => off9 _ (.tail _ (.tail _ (.tail _ (.head _)))) p hp
        have hgD6 : ∀ p ∈ c3 ++ tl9, p ∈ c3 ++ tl9 := fun _ h => h
        simp only [List.cons_append, List.append_assoc] at N9
        clear off9
        (try dsimp only)
        k_steps
        unfold Hold
        rename News _ _ _ _ => lN
        refine ne_same lN (.tail _ (.tail _ (.tail _ (.tail _ (.tail _ (List.mem_append_right _ hgm)))))) hgd (fun p hp => (.tail _ (.tail _ (.tail _ (.tail _ (.tail _ (List.mem_append_left _ hp))))))) (.head _) hWant (fun p hp => (.tail _ (.tail _ (.tail _ (.tail _ (.tail _ (List.mem_append_left _ hp))))))) (pairs_ok _) (Nat.le_of_ble_eq_true rfl) ?_
        (try dsimp only)
        k_steps
        unfold Hold
        rename News _ _ _ _ => lN
        refine ne_same lN (.tail _ (.tail _ (.tail _ (.head _)))) hDall2 (fun p hp => (.tail _ (.tail _ (.tail _ (.tail _ (.tail _ (List.mem_append_left _ hp))))))) (.tail _ (.head _)) hDall2 (fun p hp => (.tail _ (.tail _ (.tail _ (.tail _ (.tail _ (List.mem_append_left _ hp))))))) (pairs_ok _) (Nat.le_of_ble_eq_true rfl) ?_
        (try dsimp only)
        k_steps
        unfold Hold
        refine cat_data (by k_asm) (by k_asm) (.tail _ (.tail _ (.tail _ (.tail _ (.tail _ (List.mem_append_left _ hLm)))))) (.tail _ (.tail _ (.tail _ (.tail _ (.tail _ (List.mem_append_left _ hRm)))))) (by (try simp only [List.length_append]); omega) ?_
        intro D6 g6 G6 N6 l6
        have d56 : @LT.lt Nat _ D5 D6 := l6 _ (.head _)
        have dc6 : ∀ p ∈ c3 ++ tl9, p.1 < D6 := fun p hp => l6 p (.tail _ (.tail _ (.tail _ (.tail _ (.tail _ (hp))))))
        clear l6
        (try dsimp only)
        k_steps
        unfold Hold
        refine' says_use (del_ct w _ mg mb) (ps ++ rs, cellAt ns 0 0) ((D6, PySem.W.listOf (lvs ++ rv).toArray 0) :: c3) ?k1 ?k2 ?k3 ?k4 ?k5 ?k6 ?k7 ?k8 ?k9 ?k10 ?_
        (case k1 => k_asm)
        (case k2 => k_asm)
        (case k3 => k_asm)
        (case k4 => k_asm)
        (case k5 => k_asm)
        (case k6 => exact rfl)
        (case k7 => exact sub1 (.head _) (fun p hp => (.tail _ (.tail _ (.tail _ (.tail _ (.tail _ (.tail _ (List.mem_append_left _ hp)))))))))
        (case k8 => exact ⟨D6, _, _, _, rfl, .head _, hWant.mono (fun _ h => .tail _ h), by simp only [List.length_append]; omega⟩)
        (case k9 => exact Nat.le_of_ble_eq_true rfl)
        (case k10 => exact Nat.le_of_ble_eq_true rfl)
        intro r10 tl10 h10 tk10 F10 N10 off10 ho10
        obtain ⟨aa, av2, an, rfl, ham, had⟩ := ho10
        replace had := drop_list had
        rw [hLaw2] at had
        have hn2 : ∀ p ∈ c3 ++ (tl9 ++ tl10), p.1 ≠ D2 := fun p hp => (List.mem_append.mp hp).elim (fun h => Nat.ne_of_lt (dc2 p h)) fun h => (List.mem_append.mp h).elim (hoff2 p) fun h => off10 _ (.tail _ (.tail _ (.tail _ (.tail _ (.head _))))) p h
        have hn6 : ∀ p ∈ c3 ++ (tl9 ++ tl10), p.1 ≠ D6 := fun p hp => (List.mem_append.mp hp).elim (fun h => Nat.ne_of_lt (dc6 p (List.mem_append_left _ h))) fun h => (List.mem_append.mp h).elim (fun h => Nat.ne_of_lt (dc6 p (List.mem_append_right _ h))) fun h => off10 _ (.head _) p h
        simp only [List.cons_append, List.append_assoc] at N10
        clear off10
        (try dsimp only)
        k_steps
        unfold Hold
        rename News _ _ _ _ => lN
        refine ne_same lN (.tail _ (.tail _ (.tail _ (.tail _ (.tail _ (.tail _ (List.mem_append_right _ (List.mem_append_right _ ham)))))))) had (fun p hp => (.tail _ (.tail _ (.tail _ (.tail _ (.tail _ (.tail _ (List.mem_append_left _ hp)))))))) (.tail _ (.head _)) hWant (fun p hp => (.tail _ (.tail _ (.tail _ (.tail _ (.tail _ (.tail _ (List.mem_append_left _ hp)))))))) (pairs_ok _) (Nat.le_of_ble_eq_true rfl) ?_
        (try dsimp only)
        k_steps
        unfold Hold
        rename News _ _ _ _ => lN
        refine ne_same lN (.head _) hWant (fun p hp => (.tail _ (.tail _ (.tail _ (.tail _ (.tail _ (.tail _ (List.mem_append_left _ hp)))))))) (.tail _ (.head _)) hWant (fun p hp => (.tail _ (.tail _ (.tail _ (.tail _ (.tail _ (.tail _ (List.mem_append_left _ hp)))))))) (pairs_ok _) (Nat.le_of_ble_eq_true rfl) ?_
        (try dsimp only)
        k_steps
        unfold Hold
        rename News _ _ _ _ => lN
        refine ne_same lN (.tail _ (.tail _ (.tail _ (.tail _ (.tail _ (.tail _ (.tail _ (.tail _ (List.mem_append_right _ (List.mem_append_left _ hgm)))))))))) hgd (fun p hp => (.tail _ (.tail _ (.tail _ (.tail _ (.tail _ (.tail _ (.tail _ (.tail _ (List.mem_append_left _ hp)))))))))) (.tail _ (.tail _ (.tail _ (.head _)))) hWant (fun p hp => (.tail _ (.tail _ (.tail _ (.tail _ (.tail _ (.tail _ (.tail _ (.tail _ (List.mem_append_left _ hp)))))))))) (pairs_ok _) (Nat.le_of_ble_eq_true rfl) ?_
        (try dsimp only)
        k_steps
        unfold Hold
        rename News _ _ _ _ => lN
        refine ne_same lN (.tail _ (.tail _ (.tail _ (.tail _ (.tail _ (.tail _ (.tail _ (.tail _ (List.mem_append_right _ (List.mem_append_right _ ham)))))))))) had (fun p hp => (.tail _ (.tail _ (.tail _ (.tail _ (.tail _ (.tail _ (.tail _ (.tail _ (List.mem_append_left _ hp)))))))))) (.tail _ (.tail _ (.tail _ (.head _)))) hWant (fun p hp => (.tail _ (.tail _ (.tail _ (.tail _ (.tail _ (.tail _ (.tail _ (.tail _ (List.mem_append_left _ hp)))))))))) (pairs_ok _) (Nat.le_of_ble_eq_true rfl) ?_
        (try dsimp only)
        k_steps
      · unfold Hold
        rename News _ _ _ _ => lN
        obtain ⟨c3, hc3, N3⟩ := name_all lN
        clear lN
        rename_i mm _ _ _ _ _ _ _ _ _
        have hs23 : ∀ p ∈ c2, p ∈ c3 := fun p hp => by rw [← hc3]; exact .tail _ (.tail _ hp)
        have hRm : (r0, PySem.W.listOf rv.toArray rn) ∈ c3 := by rw [← hc3]; exact .tail _ (.head _)
        obtain ⟨mv, mn, ms, hMm, hMd, hMk, hMl⟩ : ∃ mv mn ms, (mm, PySem.W.listOf (List.toArray mv) mn) ∈ c3 ∧ DatAll c3 mv (List.map pairD ms) ∧ (∀ p ∈ ms, p.1 = cellAt ns 0 0) ∧ mv.length ≤ 10 :=
          ⟨[], 0, [], by rw [← hc3]; exact .head _, .nil, (fun _ h => nomatch h), by simp⟩
        clear hc3
        have hLm := hs23 _ hlm
        have hLd := hld.mono hs23
        have hRd := hfa.mono hs23
        have hpl : ps.length ≤ 10 := by have e := hld.length; rw [List.length_map] at e; omega
        have hrl2 : rs.length ≤ 10 := by have e := hfa.length; rw [List.length_map] at e; omega
        have hml2 : ms.length ≤ 10 := by have e := hMd.length; rw [List.length_map] at e; omega
        have hDall : DatAll c3 (lvs ++ mv ++ rv) ((ps ++ ms ++ rs).map pairD) := by rw [List.map_append, List.map_append]; exact (hLd.append hMd).append hRd
        have hWant : DatAll c3 (lvs ++ rv) ((ps ++ rs).map pairD) := by rw [List.map_append]; exact hLd.append hRd
        have hDall2 : DatAll c3 (lvs ++ (mv ++ rv)) ((ps ++ ms ++ rs).map pairD) := by rw [← List.append_assoc]; exact hDall
        have hLaw := mdel_law hP3 hMk hR4
        have hLaw2 := mdel_law2 hP3 hR4
        clear hs23 hlm hld hfa hne
        (try dsimp only)
        refine cat_data (by k_asm) (by k_asm) hLm hMm (by (try simp only [List.length_append]); omega) ?_
        intro D1 g1 G1 N1 l1
        (try dsimp only)
        k_steps
        unfold Hold
        refine cat_data (by k_asm) (by k_asm) (.head _) (.tail _ hRm) (by (try simp only [List.length_append]); omega) ?_
        intro D2 g2 G2 N2 l2
        have d12 : @LT.lt Nat _ D1 D2 := l2 _ (.head _)
        have dc2 : ∀ p ∈ c3, p.1 < D2 := fun p hp => l2 p (.tail _ hp)
        (try dsimp only)
        k_steps
        unfold Hold
        refine cat_data (by k_asm) (by k_asm) (.tail _ (.tail _ (hLm))) (.tail _ (.tail _ (hMm))) (by (try simp only [List.length_append]); omega) ?_
        intro D3 g3 G3 N3 l3
        have d23 : @LT.lt Nat _ D2 D3 := l3 _ (.head _)
        (try dsimp only)
        k_steps
        unfold Hold
        refine cat_data (by k_asm) (by k_asm) (.head _) (.tail _ (.tail _ (.tail _ (hRm)))) (by (try simp only [List.length_append]); omega) ?_
        intro D4 g4 G4 N4 l4
        have d34 : @LT.lt Nat _ D3 D4 := l4 _ (.head _)
        (try dsimp only)
        k_steps
        unfold Hold
        refine cat_data (by k_asm) (by k_asm) (.tail _ (.tail _ (.tail _ (.tail _ (hLm))))) (.tail _ (.tail _ (.tail _ (.tail _ (hRm))))) (by (try simp only [List.length_append]); omega) ?_
        intro D5 g5 G5 N5 l5
        have d45 : @LT.lt Nat _ D4 D5 := l5 _ (.head _)
        clear l1 l2 l3 l4 l5
        (try dsimp only)
        k_steps
        unfold Hold
        refine' says_use (del_ct w _ mg mb) (ps ++ ms ++ rs, cellAt ns 0 0) ((D2, PySem.W.listOf (lvs ++ mv ++ rv).toArray 0) :: c3) ?k1 ?k2 ?k3 ?k4 ?k5 ?k6 ?k7 ?k8 ?k9 ?k10 ?_
        (case k1 => k_asm)
        (case k2 => k_asm)
        (case k3 => k_asm)
        (case k4 => k_asm)
        (case k5 => k_asm)
        (case k6 => exact rfl)
        (case k7 => exact sub1 (.tail _ (.tail _ (.tail _ (.head _)))) (fun p hp => (.tail _ (.tail _ (.tail _ (.tail _ (.tail _ (hp))))))))
        (case k8 => exact ⟨D2, _, _, _, rfl, .head _, hDall.mono (fun _ h => .tail _ h), by simp only [List.length_append]; omega⟩)
        (case k9 => exact Nat.le_of_ble_eq_true rfl)
        (case k10 => exact Nat.le_of_ble_eq_true rfl)
        intro r9 tl9 h9 tk9 F9 N9 off9 ho9
        obtain ⟨ga, gv, gn, rfl, hgm, hgd⟩ := ho9
        replace hgd := drop_list hgd
        rw [hLaw] at hgd
        have hoff2 : ∀ p ∈ tl9, p.1 ≠ D2 := fun p hp => off9 _ (.tail _ (.tail _ (.tail _ (.head _)))) p hp
        have hgD6 : ∀ p ∈ c3 ++ tl9, p ∈ c3 ++ tl9 := fun _ h => h
        simp only [List.cons_append, List.append_assoc] at N9
        clear off9
        (try dsimp only)
        k_steps
        unfold Hold
        rename News _ _ _ _ => lN
        refine ne_same lN (.tail _ (.tail _ (.tail _ (.tail _ (.tail _ (List.mem_append_right _ hgm)))))) hgd (fun p hp => (.tail _ (.tail _ (.tail _ (.tail _ (.tail _ (List.mem_append_left _ hp))))))) (.head _) hWant (fun p hp => (.tail _ (.tail _ (.tail _ (.tail _ (.tail _ (List.mem_append_left _ hp))))))) (pairs_ok _) (Nat.le_of_ble_eq_true rfl) ?_
        (try dsimp only)
        k_steps
        unfold Hold
        rename News _ _ _ _ => lN
        refine ne_same lN (.tail _ (.tail _ (.tail _ (.head _)))) hDall2 (fun p hp => (.tail _ (.tail _ (.tail _ (.tail _ (.tail _ (List.mem_append_left _ hp))))))) (.tail _ (.head _)) hDall2 (fun p hp => (.tail _ (.tail _ (.tail _ (.tail _ (.tail _ (List.mem_append_left _ hp))))))) (pairs_ok _) (Nat.le_of_ble_eq_true rfl) ?_
        (try dsimp only)
        k_steps
        unfold Hold
        refine cat_data (by k_asm) (by k_asm) (.tail _ (.tail _ (.tail _ (.tail _ (.tail _ (List.mem_append_left _ hLm)))))) (.tail _ (.tail _ (.tail _ (.tail _ (.tail _ (List.mem_append_left _ hRm)))))) (by (try simp only [List.length_append]); omega) ?_
        intro D6 g6 G6 N6 l6
        have d56 : @LT.lt Nat _ D5 D6 := l6 _ (.head _)
        have dc6 : ∀ p ∈ c3 ++ tl9, p.1 < D6 := fun p hp => l6 p (.tail _ (.tail _ (.tail _ (.tail _ (.tail _ (hp))))))
        clear l6
        (try dsimp only)
        k_steps
        unfold Hold
        refine' says_use (del_ct w _ mg mb) (ps ++ rs, cellAt ns 0 0) ((D6, PySem.W.listOf (lvs ++ rv).toArray 0) :: c3) ?k1 ?k2 ?k3 ?k4 ?k5 ?k6 ?k7 ?k8 ?k9 ?k10 ?_
        (case k1 => k_asm)
        (case k2 => k_asm)
        (case k3 => k_asm)
        (case k4 => k_asm)
        (case k5 => k_asm)
        (case k6 => exact rfl)
        (case k7 => exact sub1 (.head _) (fun p hp => (.tail _ (.tail _ (.tail _ (.tail _ (.tail _ (.tail _ (List.mem_append_left _ hp)))))))))
        (case k8 => exact ⟨D6, _, _, _, rfl, .head _, hWant.mono (fun _ h => .tail _ h), by simp only [List.length_append]; omega⟩)
        (case k9 => exact Nat.le_of_ble_eq_true rfl)
        (case k10 => exact Nat.le_of_ble_eq_true rfl)
        intro r10 tl10 h10 tk10 F10 N10 off10 ho10
        obtain ⟨aa, av2, an, rfl, ham, had⟩ := ho10
        replace had := drop_list had
        rw [hLaw2] at had
        have hn2 : ∀ p ∈ c3 ++ (tl9 ++ tl10), p.1 ≠ D2 := fun p hp => (List.mem_append.mp hp).elim (fun h => Nat.ne_of_lt (dc2 p h)) fun h => (List.mem_append.mp h).elim (hoff2 p) fun h => off10 _ (.tail _ (.tail _ (.tail _ (.tail _ (.head _))))) p h
        have hn6 : ∀ p ∈ c3 ++ (tl9 ++ tl10), p.1 ≠ D6 := fun p hp => (List.mem_append.mp hp).elim (fun h => Nat.ne_of_lt (dc6 p (List.mem_append_left _ h))) fun h => (List.mem_append.mp h).elim (fun h => Nat.ne_of_lt (dc6 p (List.mem_append_right _ h))) fun h => off10 _ (.head _) p h
        simp only [List.cons_append, List.append_assoc] at N10
        clear off10
        (try dsimp only)
        k_steps
        unfold Hold
        rename News _ _ _ _ => lN
        refine ne_same lN (.tail _ (.tail _ (.tail _ (.tail _ (.tail _ (.tail _ (List.mem_append_right _ (List.mem_append_right _ ham)))))))) had (fun p hp => (.tail _ (.tail _ (.tail _ (.tail _ (.tail _ (.tail _ (List.mem_append_left _ hp)))))))) (.tail _ (.head _)) hWant (fun p hp => (.tail _ (.tail _ (.tail _ (.tail _ (.tail _ (.tail _ (List.mem_append_left _ hp)))))))) (pairs_ok _) (Nat.le_of_ble_eq_true rfl) ?_
        (try dsimp only)
        k_steps
        unfold Hold
        rename News _ _ _ _ => lN
        refine ne_same lN (.head _) hWant (fun p hp => (.tail _ (.tail _ (.tail _ (.tail _ (.tail _ (.tail _ (List.mem_append_left _ hp)))))))) (.tail _ (.head _)) hWant (fun p hp => (.tail _ (.tail _ (.tail _ (.tail _ (.tail _ (.tail _ (List.mem_append_left _ hp)))))))) (pairs_ok _) (Nat.le_of_ble_eq_true rfl) ?_
        (try dsimp only)
        k_steps
        unfold Hold
        rename News _ _ _ _ => lN
        refine ne_same lN (.tail _ (.tail _ (.tail _ (.tail _ (.tail _ (.tail _ (.tail _ (.tail _ (List.mem_append_right _ (List.mem_append_left _ hgm)))))))))) hgd (fun p hp => (.tail _ (.tail _ (.tail _ (.tail _ (.tail _ (.tail _ (.tail _ (.tail _ (List.mem_append_left _ hp)))))))))) (.tail _ (.tail _ (.tail _ (.head _)))) hWant (fun p hp => (.tail _ (.tail _ (.tail _ (.tail _ (.tail _ (.tail _ (.tail _ (.tail _ (List.mem_append_left _ hp)))))))))) (pairs_ok _) (Nat.le_of_ble_eq_true rfl) ?_
        (try dsimp only)
        k_steps
        unfold Hold
        rename News _ _ _ _ => lN
        refine ne_same lN (.tail _ (.tail _ (.tail _ (.tail _ (.tail _ (.tail _ (.tail _ (.tail _ (List.mem_append_right _ (List.mem_append_right _ ham)))))))))) had (fun p hp => (.tail _ (.tail _ (.tail _ (.tail _ (.tail _ (.tail _ (.tail _ (.tail _ (List.mem_append_left _ hp)))))))))) (.tail _ (.tail _ (.tail _ (.head _)))) hWant (fun p hp => (.tail _ (.tail _ (.tail _ (.tail _ (.tail _ (.tail _ (.tail _ (.tail _ (List.mem_append_left _ hp)))))))))) (pairs_ok _) (Nat.le_of_ble_eq_true rfl) ?_
        (try dsimp only)
        k_steps
end
