import PyProof.Rows.All
import Wide.All
import OpenK.AllK
import Wide.FinOn
import PySem.Challenge.RW_nm0001_01
set_option Elab.async false
set_option maxRecDepth 100000
set_option rowWalk.seconds 0
section
open PySem PySem.W PyProof.Rows
namespace Mine
set_option maxRecDepth 100000 in
set_option maxHeartbeats 8000000 in
open_top hd for PySem.Challenge.rw_nm0001_01
end Mine
end
section
open PySem PySem.W PySem.Calls PyProof.Rows PyProof.Rows.LCg
namespace Mine
/- what a frame's map says, written out -/
theorem kstB_self {m : Str → Option Value} {ps : List (Str × Value)} (h : ∀ p ∈ ps, m p.1 = some p.2) : kstB m ps = m := by
  funext z
  exact kstB_eq h fun _ => rfl
theorem news_sub {h₀ h : Heap} {L : Addr} {l l' : List (Addr × Obj)} (N : News h₀ L h l) (hs : ∀ p ∈ l', p ∈ l) : News h₀ L h l' := fun p hp => N p (hs p hp)
theorem off1_of {D : Addr} : ∀ {l : List (Addr × Obj)}, (∀ p ∈ l, p.1 ≠ D) → Off1 D l
  | [], _ => trivial
  | _ :: _, h => ⟨h _ (.head _), off1_of fun p hp => h p (.tail _ hp)⟩
theorem Off1.mem {D : Addr} : ∀ {l : List (Addr × Obj)}, Off1 D l → ∀ p ∈ l, p.1 ≠ D
  | [], _, _, h => nomatch h
  | _ :: _, x, p, h => by
    rcases List.mem_cons.mp h with rfl | h
    · exact x.1
    · exact Off1.mem x.2 p h
/-- what a turn must leave behind -/
def NEnd {σ : Type} (h₀ : Heap) (L : Addr) (Led : σ → List (Addr × Obj)) (ps : σ → List (Str × Value)) (own : List (Addr × Obj)) (R : σ → Prop) (s₁ s₂ : Shared) : Prop :=
  ∃ c h' tk m', s₂ = { s₁ with heap := h', toks := tk } ∧ Fr h₀ L h' m' ∧ News h₀ L h' (own ++ Led c) ∧ (∀ q ∈ own, Off1 q.1 (Led c)) ∧ (∀ p ∈ ps c, m' p.1 = some p.2) ∧ R c
def NPost {σ : Type} (h₀ : Heap) (L : Addr) (Led : σ → List (Addr × Obj)) (ps : σ → List (Str × Value)) (own : List (Addr × Obj)) (R : σ → Prop) (s₁ : Shared) (Q : Flow → Shared → Prop) (f : Flow) (s₂ : Shared) : Prop :=
  match f with
  | .ret v => Q (.ret v) s₂
  | .brk => Q .next s₂
  | _ => NEnd h₀ L Led ps own R s₁ s₂
theorem NEnd.intro {σ : Type} {h₀ : Heap} {L : Addr} {Led : σ → List (Addr × Obj)} {ps : σ → List (Str × Value)} {own : List (Addr × Obj)} {R : σ → Prop} {s₁ : Shared} {h' : Heap} {tk : Nat} {m' : Str → Option Value} {all : List (Addr × Obj)} (c : σ)
    (F : Fr h₀ L h' m') (N : News h₀ L h' all) (hs : ∀ p ∈ own ++ Led c, p ∈ all) (ho : ∀ q ∈ own, Off1 q.1 (Led c)) (hp : ∀ p ∈ ps c, m' p.1 = some p.2) (hR : R c) : NEnd h₀ L Led ps own R s₁ { s₁ with heap := h', toks := tk } :=
  ⟨c, h', tk, m', rfl, F, news_sub N hs, ho, hp, hR⟩
section
variable {prog : Program} {w : World} {A : Around} {E : Value → Shared → Prop} {s : Shared} {env : Env} {h₀ : Heap} {Q : Flow → Shared → Prop}
theorem nm_while {σ : Type} {test : Expr} {body : List Stmt} {pos : Pos} {m₀ : Str → Option Value} (Led : σ → List (Addr × Obj)) (ps : σ → List (Str × Value)) (P : σ → Prop) (μ : σ → Nat) (c₀ : σ)
    (F : Fr h₀ env.locals s.heap m₀) (N : News h₀ env.locals s.heap (Led c₀)) (hp : ∀ p ∈ ps c₀, m₀ p.1 = some p.2) (hP : P c₀)
    (turn : ∀ c h tk (u : Str → Option Value), P c → Fr h₀ env.locals h (kstB u (ps c)) → News h₀ env.locals h (Led c) →
      wpAny (model prog w) A (isTrue test env (eval test env)) (fun b s₂ => if b = true then
        wpAny (model prog w) A (execs body env) (NPost h₀ env.locals Led ps [] (fun c' => P c' ∧ μ c' < μ c) { s with heap := h, toks := tk } Q) E s₂ else Q .next s₂) E { s with heap := h, toks := tk })
    (hE : PassesOwn (model prog w) A env E := by passes_own) :
    wpAny (model prog w) A (exec (.While test body [] pos) env) Q E s := by
  refine wpAny_While ?_
  refine codeAny_whileLoop (fun n s' => ∃ c h tk m, s' = { s with heap := h, toks := tk } ∧ Fr h₀ env.locals h m ∧ News h₀ env.locals h (Led c) ∧ (∀ p ∈ ps c, m p.1 = some p.2) ∧ P c ∧ n = μ c) ?_ (μ c₀)
    ⟨c₀, s.heap, s.toks, m₀, rfl, F, N, hp, hP, rfl⟩
  rintro n s' ⟨c, h, tk, m, rfl, F', N', hp', hP', rfl⟩
  have F₁ : Fr h₀ env.locals h (kstB m (ps c)) := by rw [kstB_self hp']; exact F'
  refine wpAny_passesOwn hE (wpAny_mono (turn c h tk m hP' F₁ N') (fun b s₂ h₂ => ?_) fun _ _ e => e)
  cases b with
  | false =>
    simp only [Bool.false_eq_true, if_false] at h₂ ⊢
    exact wpAny_execs_nil h₂
  | true =>
    simp only [if_true] at h₂ ⊢
    refine wpAny_passesOwn hE (wpAny_mono h₂ (fun f s₃ h₃ => ?_) fun _ _ e => e)
    have fin : NEnd h₀ env.locals Led ps [] (fun c' => P c' ∧ μ c' < μ c) { s with heap := h, toks := tk } s₃ →
        ∃ k, k < μ c ∧ ∃ c h tk m, s₃ = { s with heap := h, toks := tk } ∧ Fr h₀ env.locals h m ∧ News h₀ env.locals h (Led c) ∧ (∀ p ∈ ps c, m p.1 = some p.2) ∧ P c ∧ k = μ c := by
      rintro ⟨c', h', tk', m', rfl, F₃, N₃, _, hp₃, hP₃, hm⟩
      exact ⟨μ c', hm, c', h', tk', m', rfl, F₃, N₃, hp₃, hP₃, rfl⟩
    cases f with
    | next => exact fin h₃
    | cont => exact fin h₃
    | brk => exact h₃
    | ret v => exact h₃
/-- a for loop, its source reckoned -/
def NFor (prog : Program) (w : World) (A : Around) (env : Env) (target : Expr) (body : List Stmt) (Q : Flow → Shared → Prop) (E : Value → Shared → Prop) (xv : Value) (s₁ : Shared) : Prop :=
  wpAny (model prog w) A (pyIter xv) (fun it s₂ => codeAny (model prog w) A (.forLoop target it body [] env) (fun r s' => match r with | .ok f => Q f s' | .error e => cameBackBy (model prog w) A env E e s') s₂) E s₁
theorem nm_for {target iter : Expr} {body : List Stmt} {pos : Pos} (h : wpAny (model prog w) A (eval iter env) (NFor prog w A env target body Q E) E s) (hs : ∀ x, foldedSetIterable iter env x = pure x := by intro _; rfl) :
    wpAny (model prog w) A (exec (.For target iter body [] pos) env) Q E s := wpAny_For h hs
theorem news_but1 {h h' : Heap} {L I : Addr} {news : List (Addr × Obj)} (N : News h₀ L h news) (hs : ∀ b o, b ≠ I → h.get? b = some o → h'.get? b = some o) (off : Off1 I news) : News h₀ L h' news :=
  fun p hp => ⟨hs _ _ (Off1.mem off p hp) (N p hp).1, (N p hp).2⟩
theorem fr_but1 {h h' : Heap} {L I : Addr} {m : Str → Option Value} (F : Fr h₀ L h m) (hs : ∀ b o, b ≠ I → h.get? b = some o → h'.get? b = some o) (hL : L ≠ I) (hI : h₀.get? I = none) : Fr h₀ L h' m :=
  ⟨F.ns.at' fun o e => hs L o hL e, fun b o e => hs b o (fun q => by rw [q, hI] at e; cases e) (F.keep b o e), F.above⟩
/-- the loop over a list that stands while it runs, any target -/
theorem NFor.list {σ : Type} {target : Expr} {body : List Stmt} {l : Addr} {vs : List Value} {m₀ : Str → Option Value} (Led : σ → List (Addr × Obj)) (ps : σ → List (Str × Value)) (P : Nat → σ → Prop) (c₀ : σ)
    (hh : A.handled = none) (hl : ∀ c h m, Fr h₀ env.locals h m → News h₀ env.locals h (Led c) → h.IsList l vs.toArray)
    (F : Fr h₀ env.locals s.heap m₀) (N : News h₀ env.locals s.heap (Led c₀)) (hp : ∀ p ∈ ps c₀, m₀ p.1 = some p.2) (hP : P 0 c₀)
    (hgo : ∀ I i v s', s'.heap.IsListIter I l i → v ∈ vs → ∀ (R : Unit → Shared → Prop) (E' : Value → Shared → Prop), R () s' → wpAny (model prog w) A (letOwnedTupleGo target (.ref I) v) R E' s')
    (turn : ∀ i v c h tk (u : Str → Option Value) I oI, vs[i]? = some v → P i c → Fr h₀ env.locals h (kstB u (ps c)) → News h₀ env.locals h ((I, oI) :: Led c) → Off1 I (Led c) →
      wpAny (model prog w) A (assign target env v) (fun _ s₂ => wpAny (model prog w) A (execs body env) (NPost h₀ env.locals Led ps [(I, oI)] (P (i + 1)) { s with heap := h, toks := tk } Q) E s₂) E { s with heap := h, toks := tk })
    (done : ∀ c h tk (u : Str → Option Value), P vs.length c → Fr h₀ env.locals h (kstB u (ps c)) → News h₀ env.locals h (Led c) → Q .next { s with heap := h, toks := tk })
    (hE : PassesOwn (model prog w) A env E := by passes_own) :
    NFor prog w A env target body Q E (.ref l) s := by
  unfold NFor
  have hls := hl c₀ s.heap m₀ F N
  obtain ⟨ol, hol, _⟩ := id hls
  have hlt : l < s.heap.objs.size := Heap.lt_size hol
  refine wpAny_pyIter_list hls ?_
  generalize hI : s.heap.objs.size = I at hlt
  have hIL : env.locals ≠ I := by rw [← hI]; exact Nat.ne_of_lt F.ns.lt
  have hI₀ : h₀.get? I = none := by
    cases e : h₀.get? I with
    | none => rfl
    | some o => have := Heap.lt_size (F.keep I o e); rw [hI] at this; exact absurd this (Nat.lt_irrefl _)
  have hlI : l ≠ I := Nat.ne_of_lt hlt
  refine codeAny_forLoop_any (fun k s' => ∃ c i h tk m, s' = { s with heap := h, toks := tk } ∧ h.IsListIter I l i ∧ Fr h₀ env.locals h m ∧ News h₀ env.locals h (Led c) ∧ Off1 I (Led c) ∧ (∀ p ∈ ps c, m p.1 = some p.2) ∧ P i c ∧ i ≤ vs.length ∧ k = vs.length + 1 - i) ?_ (vs.length + 1)
    ⟨c₀, 0, _, s.toks, m₀, rfl, ⟨_, hI ▸ Heap.get?_push_size _ rfl, rfl, rfl⟩, F.push _, (fun p hq => ⟨Heap.get?_push_of_some _ (N p hq).1, (N p hq).2⟩), off1_of (fun p hq => by have := Heap.lt_size (N p hq).1; rw [hI] at this; exact Nat.ne_of_lt this), hp, hP, Nat.zero_le _, rfl⟩
  rintro k s' ⟨c, i, h, tk, m, rfl, hit, F', N', off, hp', hP', hi, rfl⟩
  have hl' := hl c h m F' N'
  by_cases hlt' : i < vs.length
  · have hx : vs[i]? = some vs[i] := List.getElem?_eq_getElem hlt'
    have hmem : vs[i] ∈ vs := List.getElem_mem hlt'
    generalize vs[i] = v at hx hmem
    refine wpAny_pyNext_list_item hit hl' (by simpa using hx) fun h₁ hit₁ hs₁ => ?_
    refine hgo I (i + 1) v _ hit₁ hmem _ _ ?_
    have hk₁ : ∀ b o, b ≠ I → h.get? b = some o → h₁.get? b = some o := fun b o hb e => hs₁.extBut b o hb e
    obtain ⟨oI, hoI, hcI, hdI⟩ := id hit₁
    have F₁ : Fr h₀ env.locals h₁ (kstB m (ps c)) := by rw [kstB_self hp']; exact fr_but1 F' hk₁ hIL hI₀
    have N₁ : News h₀ env.locals h₁ ((I, oI) :: Led c) := by
      intro p hq
      rcases List.mem_cons.mp hq with rfl | hq
      · exact ⟨hoI, Ne.symm hIL, hI₀⟩
      · exact news_but1 N' hk₁ off p hq
    refine wpAny_passesOwn hE (wpAny_mono (turn i v c h₁ tk m I oI hx hP' F₁ N₁ off) (fun _ s₂ h₂ => wpAny_passesOwn hE (wpAny_mono h₂ (fun f s₃ h₃ => ?_) fun _ _ e => e)) fun _ _ e => e)
    have fin : NEnd h₀ env.locals Led ps [(I, oI)] (P (i + 1)) { s with heap := h₁, toks := tk } s₃ →
        ∃ k, k < vs.length + 1 - i ∧ ∃ c i h tk m, s₃ = { s with heap := h, toks := tk } ∧ h.IsListIter I l i ∧ Fr h₀ env.locals h m ∧ News h₀ env.locals h (Led c) ∧ Off1 I (Led c) ∧ (∀ p ∈ ps c, m p.1 = some p.2) ∧ P i c ∧ i ≤ vs.length ∧ k = vs.length + 1 - i := by
      rintro ⟨c', h', tk', m', rfl, F₃, N₃, ho₃, hp₃, hP₃⟩
      exact ⟨vs.length + 1 - (i + 1), by omega, c', i + 1, h', tk', m', rfl, ⟨oI, (N₃ (I, oI) (.head _)).1, hcI, hdI⟩, F₃, (fun p hq => N₃ p (.tail _ hq)), ho₃ _ (.head _), hp₃, hP₃, hlt', rfl⟩
    cases f with
    | next => exact fin h₃
    | cont => exact fin h₃
    | brk => exact h₃
    | ret v => exact h₃
  · have hin : i = vs.length := by omega
    subst hin
    refine wpAny_pyNext_list_end hh hit hl' (by simp) fun h₁ he₁ => ?_
    refine wpAny_execs_nil ?_
    have hk₁ : ∀ b o, b ≠ I → h.get? b = some o → h₁.get? b = some o := fun b o hb e => he₁ b o hb e
    exact done c h₁ tk m hP' (by rw [kstB_self hp']; exact fr_but1 F' hk₁ hIL hI₀) (news_but1 N' hk₁ off)
/-- one name -/
theorem NFor.listN {σ : Type} {x : Str} {px : Pos} {body : List Stmt} {l : Addr} {vs : List Value} {m₀ : Str → Option Value} (Led : σ → List (Addr × Obj)) (ps : σ → List (Str × Value)) (P : Nat → σ → Prop) (c₀ : σ)
    (hh : A.handled = none) (hl : ∀ c h m, Fr h₀ env.locals h m → News h₀ env.locals h (Led c) → h.IsList l vs.toArray)
    (F : Fr h₀ env.locals s.heap m₀) (N : News h₀ env.locals s.heap (Led c₀)) (hp : ∀ p ∈ ps c₀, m₀ p.1 = some p.2) (hP : P 0 c₀)
    (hx : env.kindOf x = some .local) (hc : (env.scope.kind == .class || (env.scope.kind == .module && env.locals != env.globals)) = false)
    (turn : ∀ i v c h tk (u : Str → Option Value) I oI, vs[i]? = some v → P i c → Fr h₀ env.locals h (fun z => if z = x then some v else kstB u (ps c) z) → News h₀ env.locals h ((I, oI) :: Led c) → Off1 I (Led c) →
      wpAny (model prog w) A (execs body env) (NPost h₀ env.locals Led ps [(I, oI)] (P (i + 1)) { s with heap := h, toks := tk } Q) E { s with heap := h, toks := tk })
    (done : ∀ c h tk (u : Str → Option Value), P vs.length c → Fr h₀ env.locals h (kstB u (ps c)) → News h₀ env.locals h (Led c) → Q .next { s with heap := h, toks := tk })
    (hE : PassesOwn (model prog w) A env E := by passes_own) :
    NFor prog w A env (.Name x px) body Q E (.ref l) s := by
  refine NFor.list Led ps P c₀ hh hl F N hp hP (fun I i v s' _ _ R E' hR => wpAny_of_eq (show letOwnedTupleGo (.Name x px) (.ref I) v = pure () from rfl) hR) (fun i v c h tk u I oI hv hPc F' N' off => ?_) done hE
  refine wpAny_assign_Name (wpAny_storeName_local hx F'.ns (fun h₂ hn₂ hs₂ => ?_) hc)
  have F₂ := F'.set hn₂ hs₂
  refine wpAny_mono (turn i v c h₂ _ u I oI hv hPc F₂ (N'.set hs₂) off) (fun f s₃ h₃ => ?_) fun _ _ e => e
  cases f with
  | ret v => exact h₃
  | brk => exact h₃
  | next => exact h₃
  | cont => exact h₃
/-- two names, from a tuple -/
theorem NFor.listP {σ : Type} {a b : Str} {pa pb tp : Pos} {kk : Nat} {body : List Stmt} {l : Addr} {vs : List Value} {m₀ : Str → Option Value} (Led : σ → List (Addr × Obj)) (ps : σ → List (Str × Value)) (P : Nat → σ → Prop) (G : Nat → Value → Value → Prop) (c₀ : σ)
    (hh : A.handled = none) (hl : ∀ c h m, Fr h₀ env.locals h m → News h₀ env.locals h (Led c) → h.IsList l vs.toArray)
    (tup : ∀ i v, vs[i]? = some v → ∃ t x y, v = .ref t ∧ G i x y ∧ ∀ c h m, Fr h₀ env.locals h m → News h₀ env.locals h (Led c) → h.IsTuple t #[x, y])
    (F : Fr h₀ env.locals s.heap m₀) (N : News h₀ env.locals s.heap (Led c₀)) (hp : ∀ p ∈ ps c₀, m₀ p.1 = some p.2) (hP : P 0 c₀)
    (ha : env.kindOf a = some .local) (hb : env.kindOf b = some .local) (hc : (env.scope.kind == .class || (env.scope.kind == .module && env.locals != env.globals)) = false)
    (turn : ∀ i x y c h tk (u : Str → Option Value) I oI, i < vs.length → G i x y → P i c → Fr h₀ env.locals h (fun z => if z = b then some y else if z = a then some x else kstB u (ps c) z) → News h₀ env.locals h ((I, oI) :: Led c) → Off1 I (Led c) →
      wpAny (model prog w) A (execs body env) (NPost h₀ env.locals Led ps [(I, oI)] (P (i + 1)) { s with heap := h, toks := tk } Q) E { s with heap := h, toks := tk })
    (done : ∀ c h tk (u : Str → Option Value), P vs.length c → Fr h₀ env.locals h (kstB u (ps c)) → News h₀ env.locals h (Led c) → Q .next { s with heap := h, toks := tk })
    (hE : PassesOwn (model prog w) A env E := by passes_own) :
    NFor prog w A env (.Tuple [.Name a pa, .Name b pb] kk tp) body Q E (.ref l) s := by
  refine NFor.list Led ps P c₀ hh hl F N hp hP (fun I i v s' hit hv R E' hR => ?_) (fun i v c h tk u I oI hv hPc F' N' off => ?_) done hE
  · obtain ⟨j, hj, rfl⟩ := List.getElem_of_mem hv
    obtain ⟨t, x, y, e, _⟩ := tup j _ (List.getElem?_eq_getElem hj)
    rw [e]
    exact wpAny_letOwnedTupleGo_listiter hit hR
  · obtain ⟨t, x, y, rfl, hG, ht⟩ := tup i v hv
    have htup := ht c h _ F' (news_sub N' fun p hq => .tail _ hq)
    refine kcp_assign hh htup ha hb hc F'.ns fun h₂ tk₂ hn₂ hk₂ => ?_
    have hL₀ : h₀.get? env.locals = none := Heap.get?_none_of_le F'.above
    have F₂ : Fr h₀ env.locals h₂ (fun z => if z = b then some y else if z = a then some x else kstB u (ps c) z) := ⟨hn₂, fun d o e => hk₂ d o (fun q => by rw [q, hL₀] at e; cases e) (F'.keep d o e), F'.above⟩
    have N₂ : News h₀ env.locals h₂ ((I, oI) :: Led c) := fun p hq => ⟨hk₂ _ _ (N' p hq).2.1 (N' p hq).1, (N' p hq).2⟩
    refine wpAny_mono (turn i x y c h₂ tk₂ u I oI (List.getElem?_eq_some_iff.mp hv).1 hG hPc F₂ N₂ off) (fun f s₃ h₃ => ?_) fun _ _ e => e
    cases f with
    | ret v => exact h₃
    | brk => exact h₃
    | next => exact h₃
    | cont => exact h₃
end
end Mine
end
section
open PySem PySem.W PySem.Calls PyProof.Rows PyProof.Rows.LCg
namespace Mine
section
variable {prog : Program} {w : World} {A : Around} {E : Value → Shared → Prop} {s : Shared} {env : Env} {h₀ : Heap} {Q : Flow → Shared → Prop}
/-- a loop by any walk, one name -/
theorem nm_loop {σ : Type} {x : Str} {px : Pos} {body : List Stmt} {I : Addr} {fp : List Addr} {n : Nat} {V : Nat → Value → Prop} {St : Nat → Heap → Prop} {m₀ : Str → Option Value} (Led : σ → List (Addr × Obj)) (ps : σ → List (Str × Value)) (P : Nat → σ → Prop) (c₀ : σ)
    (W : Walks prog w A I fp [I] n V St) (hIo : ∀ i h, St i h → ∃ o, h.get? I = some o)
    (hSt : ∀ i h h' o c m, P i c → St i h → h.get? I = some o → h'.get? I = some o → Fr h₀ env.locals h' m → News h₀ env.locals h' (Led c) → St i h')
    (hIL : env.locals ≠ I) (hI₀ : h₀.get? I = none) (hLf : env.locals ∉ fp) (hst : St 0 s.heap)
    (F : Fr h₀ env.locals s.heap m₀) (N : News h₀ env.locals s.heap (Led c₀)) (off : Off1 I (Led c₀)) (hp : ∀ p ∈ ps c₀, m₀ p.1 = some p.2) (hP : P 0 c₀)
    (hx : env.kindOf x = some .local) (hc : (env.scope.kind == .class || (env.scope.kind == .module && env.locals != env.globals)) = false)
    (turn : ∀ i v c h tk (u : Str → Option Value) I oI, i < n → V i v → P i c → Fr h₀ env.locals h (fun z => if z = x then some v else kstB u (ps c) z) → News h₀ env.locals h ((I, oI) :: Led c) → Off1 I (Led c) →
      wpAny (model prog w) A (execs body env) (NPost h₀ env.locals Led ps [(I, oI)] (P (i + 1)) { s with heap := h, toks := tk } Q) E { s with heap := h, toks := tk })
    (done : ∀ c h tk (u : Str → Option Value), P n c → Fr h₀ env.locals h (kstB u (ps c)) → News h₀ env.locals h (Led c) → Q .next { s with heap := h, toks := tk })
    (hE : PassesOwn (model prog w) A env E := by passes_own) :
    codeAny (model prog w) A (.forLoop (.Name x px) (.ref I) body [] env) (fun r s' => match r with | .ok f => Q f s' | .error e => cameBackBy (model prog w) A env E e s') s := by
  refine codeAny_forLoop_any (fun k s' => ∃ c i h tk m, s' = { s with heap := h, toks := tk } ∧ St i h ∧ Fr h₀ env.locals h m ∧ News h₀ env.locals h (Led c) ∧ Off1 I (Led c) ∧ (∀ p ∈ ps c, m p.1 = some p.2) ∧ P i c ∧ i ≤ n ∧ k = n + 1 - i) ?_ (n + 1)
    ⟨c₀, 0, _, s.toks, m₀, rfl, hst, F, N, off, hp, hP, Nat.zero_le _, rfl⟩
  rintro k s' ⟨c, i, h, tk, m, rfl, hst', F', N', off, hp', hP', hi, rfl⟩
  by_cases hlt' : i < n
  · refine W.item i _ _ _ hlt' hst' fun v h₁ tk₁ hV hst₁ hk₁ => ?_
    refine wpAny_of_eq (show letOwnedTupleGo (.Name x px) (.ref I) v = pure () from rfl) ?_
    have hk₁' : ∀ b o, b ≠ I → h.get? b = some o → h₁.get? b = some o := fun b o hb e => hk₁ b o (by simpa using hb) e
    have F₁ : Fr h₀ env.locals h₁ (kstB m (ps c)) := by rw [kstB_self hp']; exact fr_but1 F' hk₁' hIL hI₀
    have N₁ : News h₀ env.locals h₁ (Led c) := news_but1 N' hk₁' off
    refine wpAny_assign_Name (wpAny_storeName_local hx F₁.ns (fun h₂ hn₂ hs₂ => ?_) hc)
    have F₂ := F₁.set hn₂ hs₂
    have hst₂ : St (i + 1) h₂ := W.frame _ _ _ hst₁ fun b hb o e => hs₂.extBut b o (fun q => hLf (by have q' : b = env.locals := q; rw [← q']; exact hb)) e
    obtain ⟨oI, hoI⟩ := hIo _ _ hst₂
    have N₂ : News h₀ env.locals h₂ ((I, oI) :: Led c) := by
      intro p hq
      rcases List.mem_cons.mp hq with rfl | hq
      · exact ⟨hoI, Ne.symm hIL, hI₀⟩
      · exact N₁.set hs₂ p hq
    refine wpAny_passesOwn hE (wpAny_mono (turn i v c h₂ _ m I oI hlt' hV hP' F₂ N₂ off) (fun f s₃ h₃ => ?_) fun _ _ e => e)
    have fin : NEnd h₀ env.locals Led ps [(I, oI)] (P (i + 1)) { s with heap := h₂, toks := tk₁ + 1 } s₃ →
        ∃ k, k < n + 1 - i ∧ ∃ c i h tk m, s₃ = { s with heap := h, toks := tk } ∧ St i h ∧ Fr h₀ env.locals h m ∧ News h₀ env.locals h (Led c) ∧ Off1 I (Led c) ∧ (∀ p ∈ ps c, m p.1 = some p.2) ∧ P i c ∧ i ≤ n ∧ k = n + 1 - i := by
      rintro ⟨c', h', tk', m', rfl, F₃, N₃, ho₃, hp₃, hP₃⟩
      have N₃' : News h₀ env.locals h' (Led c') := fun p hq => N₃ p (.tail _ hq)
      exact ⟨n + 1 - (i + 1), by omega, c', i + 1, h', tk', m', rfl, hSt _ _ _ _ _ _ hP₃ hst₂ hoI (N₃ (I, oI) (.head _)).1 F₃ N₃', F₃, N₃', ho₃ _ (.head _), hp₃, hP₃, hlt', rfl⟩
    cases f with
    | next => exact fin h₃
    | cont => exact fin h₃
    | brk => exact h₃
    | ret v => exact h₃
  · have hin : i = n := by omega
    subst hin
    refine W.done _ _ _ hst' fun h₁ tk₁ hk₁ => ?_
    refine wpAny_execs_nil ?_
    have hk₁' : ∀ b o, b ≠ I → h.get? b = some o → h₁.get? b = some o := fun b o hb e => hk₁ b o (by simpa using hb) e
    exact done c h₁ tk₁ m hP' (by rw [kstB_self hp']; exact fr_but1 F' hk₁' hIL hI₀) (news_but1 N' hk₁' off)
/-- over a range by ones -/
theorem NFor.rangeN {σ : Type} {x : Str} {px : Pos} {body : List Stmt} {r : Addr} {a₀ b₀ : Int} {t₀ u₀ v₀ : Tok} {n : Nat} {m₀ : Str → Option Value} (Led : σ → List (Addr × Obj)) (ps : σ → List (Str × Value)) (P : Nat → σ → Prop) (c₀ : σ)
    (hh : A.handled = none) (hr : IsRange s.heap r a₀ b₀ 1 t₀ u₀ v₀) (hsmall : Builtin.Range.small a₀ b₀ 1 = true) (hn : Builtin.Range.rangeSize a₀ b₀ 1 = (n : Int))
    (F : Fr h₀ env.locals s.heap m₀) (N : News h₀ env.locals s.heap (Led c₀)) (hp : ∀ p ∈ ps c₀, m₀ p.1 = some p.2) (hP : P 0 c₀)
    (hx : env.kindOf x = some .local) (hc : (env.scope.kind == .class || (env.scope.kind == .module && env.locals != env.globals)) = false)
    (turn : ∀ i c h tk (u : Str → Option Value) I oI t, i < n → P i c → Fr h₀ env.locals h (fun z => if z = x then some (.int (a₀ + (i : Int)) t) else kstB u (ps c) z) → News h₀ env.locals h ((I, oI) :: Led c) → Off1 I (Led c) →
      wpAny (model prog w) A (execs body env) (NPost h₀ env.locals Led ps [(I, oI)] (P (i + 1)) { s with heap := h, toks := tk } Q) E { s with heap := h, toks := tk })
    (done : ∀ c h tk (u : Str → Option Value), P n c → Fr h₀ env.locals h (kstB u (ps c)) → News h₀ env.locals h (Led c) → Q .next { s with heap := h, toks := tk })
    (hE : PassesOwn (model prog w) A env E := by passes_own) :
    NFor prog w A env (.Name x px) body Q E (.ref r) s := by
  unfold NFor
  refine wpAny_pyIter_range hr hsmall ?_
  refine nm_loop Led ps P c₀ (range_walks hh a₀ n) (fun i h st => ⟨_, st⟩) (fun i h h' o c m _ st e e' _ _ => ?_) (Nat.ne_of_lt F.ns.lt) (next_is_new F) (fun hm => absurd F.ns.lt ((List.mem_singleton.mp hm) ▸ Nat.lt_irrefl _))
    (by show IsRangeIter _ _ _ _ _; rw [hn]; simpa using Heap.get?_push_size _ rfl) (F.push _) (fun p hq => ⟨Heap.get?_push_of_some _ (N p hq).1, (N p hq).2⟩) (off1_of fun p hq => Nat.ne_of_lt (Heap.lt_size (N p hq).1)) hp hP hx hc ?_ done hE
  · have st' : h.get? _ = some _ := st
    show h'.get? _ = some _
    rw [e', ← e]; exact st'
  · rintro i v c h tk u I oI hi ⟨t, rfl⟩ hPc F' N' off
    exact turn i c h tk u I oI t hi hPc F' N' off
end
end Mine
end
section
open PySem PySem.W PySem.Calls PyProof.Rows PyProof.Rows.LCg
namespace Mine
theorem news_back {h₀ h h' : Heap} {L W : Addr} {o o' : Obj} {news : List (Addr × Obj)} {u : Obj → List (Addr × Obj)} (U : UpdF W o news u) (N : News h₀ L h news) (N' : News h₀ L h' [(W, o')]) (hk : ∀ b x, h.get? b = some x → b ≠ W → h'.get? b = some x) : News h₀ L h' (u o') := by
  obtain ⟨pre, post, rfl, hu, a, b⟩ := U.split
  rw [hu o']
  intro p hp
  rcases List.mem_append.mp hp with hp | hp
  · have z := N p (List.mem_append.mpr (.inl hp))
    exact ⟨hk _ _ z.1 (a p hp), z.2⟩
  · rcases List.mem_cons.mp hp with rfl | hp
    · exact N' _ (.head _)
    · have z := N p (List.mem_append.mpr (.inr (.tail _ hp)))
      exact ⟨hk _ _ z.1 (b p hp), z.2⟩
theorem updF_off {h₀ h : Heap} {L W G : Addr} {o o' : Obj} {news : List (Addr × Obj)} {u : Obj → List (Addr × Obj)} (U : UpdF W o news u) (N : News h₀ L h news) (hG : h.get? G = none) : Off1 G (u o') := by
  obtain ⟨pre, post, rfl, hu, a, b⟩ := U.split
  rw [hu o']
  refine off1_of fun p hp e => ?_
  have key : ∃ q ∈ pre ++ (W, o) :: post, q.1 = p.1 := by
    rcases List.mem_append.mp hp with hp | hp
    · exact ⟨p, List.mem_append.mpr (.inl hp), rfl⟩
    · rcases List.mem_cons.mp hp with rfl | hp
      · exact ⟨(W, o), List.mem_append.mpr (.inr (.head _)), rfl⟩
      · exact ⟨p, List.mem_append.mpr (.inr (.tail _ hp)), rfl⟩
  obtain ⟨q, hq, e2⟩ := key
  have := (N q hq).1
  rw [e2, e, hG] at this
  cases this
theorem updF_mem {W : Addr} {o : Obj} {news : List (Addr × Obj)} {u : Obj → List (Addr × Obj)} (U : UpdF W o news u) : (W, o) ∈ news := by
  obtain ⟨pre, post, rfl, _⟩ := U.split
  exact List.mem_append.mpr (.inr (.head _))
theorem cut_at {us : List Value} {y : Value} : ∀ {k : Nat}, us[k]? = some y → ∃ p q, us = p ++ y :: q ∧ p.length = k ∧ us.eraseIdx k = p ++ q := by
  induction us with
  | nil => intro k h; simp at h
  | cons x r ih =>
    intro k h
    cases k with
    | zero => 
      have e : x = y := by simpa using h
      exact ⟨[], r, by rw [e]; rfl, rfl, rfl⟩
    | succ k =>
      obtain ⟨p, q, e1, e2, e3⟩ := ih (k := k) (by simpa using h)
      exact ⟨x :: p, q, by rw [e1]; rfl, by rw [List.length_cons, e2], by rw [List.eraseIdx_cons_succ, e3]; rfl⟩
theorem ints_erase {us : List Value} {ls : List Int} (h : IntsAre us ls) : ∀ k : Nat, IntsAre (us.eraseIdx k) (ls.eraseIdx k) := by
  induction h with
  | nil => intro k; simpa using IntsAre.nil
  | cons i t r ih =>
    intro k
    cases k with
    | zero => exact r
    | succ k => exact .cons i t (ih k)
theorem ints_snoc {us : List Value} {ls : List Int} (h : IntsAre us ls) (i : Int) (t : Tok) : IntsAre (us ++ [.int i t]) (ls ++ [i]) := by
  induction h with
  | nil => exact .cons i t .nil
  | cons j u r ih => exact .cons j u ih
section
variable {prog : Program} {w : World} {A : Around} {E : Value → Shared → Prop} {s : Shared} {h₀ : Heap} {L D : Addr} {m : Str → Option Value} {news : List (Addr × Obj)} {u : Obj → List (Addr × Obj)} {us : List Value} {n : Nat}
theorem nm_append {x : Value} {Q : Value → Shared → Prop} (F : Fr h₀ L s.heap m) (N : News h₀ L s.heap news) (U : UpdF D (listOf us.toArray n) news u) (hz : us.length ≤ 1000)
    (h : ∀ h', Fr h₀ L h' m → News h₀ L h' (u (listOf (us ++ [x]).toArray (n + 1))) → Q .none { s with heap := h' }) : wpAny (model prog w) A (call (.builtin "list.append") [.ref D, x]) Q E s := by
  obtain ⟨pre, post, rfl, hu, a, b⟩ := U.split
  have z := N (D, listOf us.toArray n) (List.mem_append.mpr (.inr (.head _)))
  refine append_at (hsz := by rw [List.size_toArray, sizeLine_eq]; omega) z.1 fun h' hs ho' => h h' (F.change hs z.2.1 z.2.2) ?_
  rw [hu]
  refine news_set N a b hs ?_
  rw [ho']
  simp
theorem nm_popAt {i : Int} {t : Tok} {y : Value} {Q : Value → Shared → Prop} (F : Fr h₀ L s.heap m) (N : News h₀ L s.heap news) (U : UpdF D (listOf us.toArray n) news u) (h0 : 0 ≤ i) (hy : us[i.toNat]? = some y) (hz : us.length ≤ 1000)
    (h : ∀ h', Fr h₀ L h' m → News h₀ L h' (u (listOf (us.eraseIdx i.toNat).toArray (n + 1))) → Q y { s with heap := h' }) : wpAny (model prog w) A (call (.builtin "list.pop") [.ref D, .int i t]) Q E s := by
  obtain ⟨pre, post, rfl, hu, a, b⟩ := U.split
  have z := N (D, listOf us.toArray n) (List.mem_append.mpr (.inr (.head _)))
  obtain ⟨p, q, e1, e2, e3⟩ := cut_at hy
  have hlt : i.toNat < us.length := (List.getElem?_eq_some_iff.mp hy).1
  have hf : Builtin.List.listFitsIndex i = true := by
    unfold Builtin.List.listFitsIndex
    simp only [Bool.and_eq_true, decide_eq_true_eq]
    omega
  have hk : seqIndex? i us.toArray.size = some i.toNat := by
    rw [List.size_toArray]
    have hn : ¬ i < 0 := by omega
    unfold seqIndex?
    simp only [if_neg hn]
    rw [if_pos (by simp only [Bool.and_eq_true, decide_eq_true_eq]; omega)]
  have hy' : us.toArray[i.toNat]? = some y := by simpa using hy
  refine call_meets PySem.F.slot_list_pop ⟨_, z.1, rfl⟩ PySem.F.entry_list_pop (PySem.F.args_list_pop_2 _ _) (PySem.MeetsSeq.list_pop_at D _ n i t _ y hf hk hy' (by rw [List.size_toArray, sizeLine_eq]; omega)) ⟨z.1, h _ (F.change (Heap.SameBut.update ..) z.2.1 z.2.2) ?_⟩
  rw [hu]
  refine kl_turn _ N a b ?_ ?_
  · rw [e3]
    subst e1
    rw [← e2]
    exact kl_erase p q y
  · rw [e3, List.size_toArray, List.size_toArray, e1, List.length_append, List.length_append, List.length_cons]
    omega
theorem nm_pop {p : List Value} {y : Value} {Q : Value → Shared → Prop} (F : Fr h₀ L s.heap m) (N : News h₀ L s.heap news) (U : UpdF D (listOf us.toArray n) news u) (hy : us = p ++ [y]) (hz : us.length ≤ 1000)
    (h : ∀ h', Fr h₀ L h' m → News h₀ L h' (u (listOf p.toArray (n + 1))) → Q y { s with heap := h' }) : wpAny (model prog w) A (call (.builtin "list.pop") [.ref D]) Q E s := by
  obtain ⟨pre, post, rfl, hu, a, b⟩ := U.split
  have z := N (D, listOf us.toArray n) (List.mem_append.mpr (.inr (.head _)))
  subst hy
  have hz' : (p ++ [y]).toArray.size ≤ sizeLine := by rw [List.size_toArray, sizeLine_eq]; omega
  have hk : (p ++ [y]).toArray.size - 1 = p.length := by rw [List.size_toArray, List.length_append]; rfl
  have hy : (p ++ [y]).toArray[(p ++ [y]).toArray.size - 1]? = some y := by rw [hk]; simp
  refine call_meets PySem.F.slot_list_pop ⟨_, z.1, rfl⟩ PySem.F.entry_list_pop (PySem.F.args_list_pop_1 _) (PySem.MeetsSeq.list_pop_last D _ n y hy hz') ⟨z.1, h _ (F.change (Heap.SameBut.update ..) z.2.1 z.2.2) ?_⟩
  rw [hu]
  refine kl_turn _ N a b ?_ ?_
  · show (p ++ [y]).toArray.eraseIdxIfInBounds ((p ++ [y]).toArray.size - 1) = p.toArray
    rw [hk, kl_erase, List.append_nil]
  · rw [List.size_toArray, List.size_toArray, List.length_append]
    simp
theorem nm_set {k : Int} {t : Tok} {v : Value} {Q : Unit → Shared → Prop} (F : Fr h₀ L s.heap m) (N : News h₀ L s.heap news) (U : UpdF D (listOf us.toArray n) news u) (h0 : 0 ≤ k) (h1 : k < us.length) (hz : us.length ≤ 1000)
    (h : ∀ h', Fr h₀ L h' m → News h₀ L h' (u (listOf (us.set k.toNat v).toArray n)) → Q () { s with heap := h' }) : wpAny (model prog w) A (setItem (.ref D) (.int k t) v) Q E s := by
  obtain ⟨pre, post, rfl, hu, a, b⟩ := U.split
  have z := N (D, listOf us.toArray n) (List.mem_append.mpr (.inr (.head _)))
  refine ki_setAt z.1 h0 (by omega) (by rw [List.size_toArray]; exact h1) (h _ (F.change (Heap.SameBut.update ..) z.2.1 z.2.2) ?_)
  rw [hu]
  refine ki_turn _ N a b ?_ ?_
  · show us.toArray.setIfInBounds k.toNat v = (us.set k.toNat v).toArray
    apply Array.toList_inj.mp
    simp
  · simp
end
theorem nm_popInts {prog : Program} {w : World} {A : Around} {E : Value → Shared → Prop} {s : Shared} {h₀ : Heap} {L D : Addr} {m : Str → Option Value} {news : List (Addr × Obj)} {u : Obj → List (Addr × Obj)} {us : List Value} {n : Nat} {ls : List Int} {i : Int} {t : Tok} {Q : Value → Shared → Prop} (F : Fr h₀ L s.heap m) (N : News h₀ L s.heap news) (U : UpdF D (listOf us.toArray n) news u) (hi : IntsAre us ls) (h0 : 0 ≤ i) (h1 : i < ls.length) (hz : ls.length ≤ 1000)
    (h : ∀ h' t', Fr h₀ L h' m → News h₀ L h' (u (listOf (us.eraseIdx i.toNat).toArray (n + 1))) → IntsAre (us.eraseIdx i.toNat) (ls.eraseIdx i.toNat) → Q (.int (ls.getD i.toNat 0) t') { s with heap := h' }) : wpAny (model prog w) A (call (.builtin "list.pop") [.ref D, .int i t]) Q E s := by
  have hlt : i.toNat < ls.length := by omega
  obtain ⟨t', hy⟩ := hi.get i.toNat (ls.getD i.toNat 0) (by rw [List.getD_eq_getElem?_getD, List.getElem?_eq_getElem hlt]; rfl)
  exact nm_popAt F N U h0 hy (by rw [hi.length]; exact hz) fun h' F' N' => h h' t' F' N' (ints_erase hi _)
theorem seqIndex_nat {i : Int} {n : Nat} (h0 : 0 ≤ i) (h1 : i.toNat < n) : seqIndex? i n = some i.toNat := by
  have hn : ¬ i < 0 := by omega
  unfold seqIndex?
  simp only [if_neg hn]
  rw [if_pos (by simp only [Bool.and_eq_true, decide_eq_true_eq]; omega)]
section
variable {prog : Program} {w : World} {A : Around} {E : Value → Shared → Prop} {s : Shared} {h₀ : Heap} {L : Addr} {m : Str → Option Value} {news : List (Addr × Obj)}
theorem nm_addT {t b : Addr} {vs ws : List Value} {Q : Value → Shared → Prop} (F : Fr h₀ L s.heap m) (N : News h₀ L s.heap news) (ht : IsTup s.heap t vs.toArray) (hb : IsTup s.heap b ws.toArray) (hv : vs ≠ []) (hw : ws ≠ []) (hz : vs.length + ws.length ≤ 1000)
    (h : ∀ D h', Fr h₀ L h' m → News h₀ L h' ((D, { cls := .type "tuple", data := .seq (vs ++ ws).toArray }) :: news) → (∀ p ∈ news, p.1 < D) → Q (.ref D) { s with heap := h' }) :
    wpAny (model prog w) A (binaryOp .Add (.ref t) (.ref b)) Q E s :=
  add_tuples F N ht hb (fun e => absurd e hv) (fun _ e => absurd e hw) (fun _ _ h' F' N' => h _ h' F' N' fun p hp => Heap.lt_size (N p hp).1) (by rw [sizeLine_eq]; omega)
theorem nm_tupInt {value slice : PySem.Expr} {t : Addr} {vs : List Value} {ns : List Int} {k : Int} {u : Tok} {Q : Value → Shared → Prop} (ht : IsTup s.heap t vs.toArray) (hi : IntsAre vs ns) (h0 : 0 ≤ k) (h1 : k < ns.length) (hz : ns.length ≤ 1000)
    (h : ∀ t', Q (.int (ns.getD k.toNat 0) t') s)
    (hs : subscripted slice false (.ref t) (.int k u) = operate [.ref t, .int k u] (getItem (.ref t) (.int k u)) := by with_unfolding_all rfl) :
    wpAny (model prog w) A (subscriptTail value slice (.ref t) (.int k u)) Q E s := by
  have hlt : k.toNat < ns.length := by omega
  obtain ⟨t', hy⟩ := hi.get k.toNat (ns.getD k.toNat 0) (by rw [List.getD_eq_getElem?_getD, List.getElem?_eq_getElem hlt]; rfl)
  exact item_tupleT ht (by omega) (by omega) (seqIndex_nat h0 (by rw [hi.length]; exact hlt)) hy (h t') hs
end
theorem nm_setInts {prog : Program} {w : World} {A : Around} {E : Value → Shared → Prop} {s : Shared} {h₀ : Heap} {L D : Addr} {m : Str → Option Value} {news : List (Addr × Obj)} {u : Obj → List (Addr × Obj)} {us : List Value} {n : Nat} {ns : List Int} {k x : Int} {t tx : Tok} {Q : Unit → Shared → Prop} (F : Fr h₀ L s.heap m) (N : News h₀ L s.heap news) (U : UpdF D (listOf us.toArray n) news u) (hi : IntsAre us ns) (h0 : 0 ≤ k) (h1 : k < ns.length) (hz : ns.length ≤ 1000)
    (h : ∀ h', Fr h₀ L h' m → News h₀ L h' (u (listOf (us.set k.toNat (.int x tx)).toArray n)) → IntsAre (us.set k.toNat (.int x tx)) (ns.set k.toNat x) → Q () { s with heap := h' }) : wpAny (model prog w) A (setItem (.ref D) (.int k t) (.int x tx)) Q E s :=
  nm_set F N U h0 (by rw [hi.length]; exact h1) (by rw [hi.length]; exact hz) fun h' F' N' => h h' F' N' (ints_set hi _)
theorem nm_subInts {prog : Program} {w : World} {A : Around} {E : Value → Shared → Prop} {s : Shared} {value slice : PySem.Expr} {l : Addr} {vs : List Value} {ns : List Int} {k : Int} {u : Tok} {Q : Value → Shared → Prop} (hl : s.heap.IsList l vs.toArray) (hi : IntsAre vs ns) (h0 : 0 ≤ k) (h1 : k < ns.length) (hz : ns.length ≤ 1000) (h : ∀ t, Q (.int (ns.getD k.toNat 0) t) s)
    (hs : subscripted slice false (.ref l) (.int k u) = operate [.ref l, .int k u] (getItem (.ref l) (.int k u)) := by with_unfolding_all rfl) :
    wpAny (model prog w) A (subscriptTail value slice (.ref l) (.int k u)) Q E s := item_anyK hl hi h0 h1 (by omega) h hs
theorem NEnd.same {σ : Type} {h₀ : Heap} {L : Addr} {Led : σ → List (Addr × Obj)} {ps : σ → List (Str × Value)} {own : List (Addr × Obj)} {R : σ → Prop} {s₁ : Shared} {h' : Heap} {tk : Nat} {m' : Str → Option Value} (c : σ)
    (F : Fr h₀ L h' m') (N : News h₀ L h' (own ++ Led c)) (ho : ∀ q ∈ own, Off1 q.1 (Led c)) (hp : ∀ p ∈ ps c, m' p.1 = some p.2) (hR : R c) : NEnd h₀ L Led ps own R s₁ { s₁ with heap := h', toks := tk } :=
  ⟨c, h', tk, m', rfl, F, N, ho, hp, hR⟩
/-- pairs of ints, as tuples -/
abbrev tup2 (x : Int) (tx : Tok) (y : Int) (ty : Tok) : Obj := { cls := .type "tuple", data := .seq #[.int x tx, .int y ty] }
inductive PairsIn (nw : List (Addr × Obj)) : List Value → List (Int × Int) → Prop
  | nil : PairsIn nw [] []
  | cons {t : Addr} {x y : Int} {tx ty : Tok} {vs : List Value} {ps : List (Int × Int)} : (t, tup2 x tx y ty) ∈ nw → PairsIn nw vs ps → PairsIn nw (.ref t :: vs) ((x, y) :: ps)
theorem PairsIn.mono {nw nw' : List (Addr × Obj)} (hs : ∀ p ∈ nw, p ∈ nw') {vs : List Value} {ps : List (Int × Int)} (h : PairsIn nw vs ps) : PairsIn nw' vs ps := by
  induction h with
  | nil => exact .nil
  | cons hm _ ih => exact .cons (hs _ hm) ih
theorem PairsIn.snoc {nw : List (Addr × Obj)} {vs : List Value} {ps : List (Int × Int)} (h : PairsIn nw vs ps) {t : Addr} {x y : Int} {tx ty : Tok} (hm : (t, tup2 x tx y ty) ∈ nw) : PairsIn nw (vs ++ [.ref t]) (ps ++ [(x, y)]) := by
  induction h with
  | nil => exact .cons hm .nil
  | cons hm' _ ih => exact .cons hm' ih
theorem PairsIn.length {nw : List (Addr × Obj)} {vs : List Value} {ps : List (Int × Int)} (h : PairsIn nw vs ps) : vs.length = ps.length := by
  induction h with
  | nil => rfl
  | cons _ _ ih => rw [List.length_cons, List.length_cons, ih]
/-- the same upon a heap -/
inductive PairsAt (h : Heap) : List Value → List (Int × Int) → Prop
  | nil : PairsAt h [] []
  | cons {t : Addr} {x y : Int} {tx ty : Tok} {vs : List Value} {ps : List (Int × Int)} : h.IsTuple t #[.int x tx, .int y ty] → PairsAt h vs ps → PairsAt h (.ref t :: vs) ((x, y) :: ps)
theorem PairsAt.mono {h h' : Heap} {vs : List Value} {ps : List (Int × Int)} (x : PairsAt h vs ps) (k : ∀ t vals, h.IsTuple t vals → h'.IsTuple t vals) : PairsAt h' vs ps := by
  induction x with
  | nil => exact .nil
  | cons ht _ ih => exact .cons (k _ _ ht) ih
theorem PairsIn.at {h₀ h : Heap} {L : Addr} {nw : List (Addr × Obj)} {vs : List Value} {ps : List (Int × Int)} (x : PairsIn nw vs ps) (N : News h₀ L h nw) : PairsAt h vs ps := by
  induction x with
  | nil => exact .nil
  | cons hm _ ih => exact .cons ⟨_, (N _ hm).1, rfl, _, rfl⟩ ih
theorem PairsAt.length {h : Heap} {vs : List Value} {ps : List (Int × Int)} (x : PairsAt h vs ps) : vs.length = ps.length := by
  induction x with
  | nil => rfl
  | cons _ _ ih => rw [List.length_cons, List.length_cons, ih]
theorem PairsAt.get {h : Heap} {vs : List Value} {ps : List (Int × Int)} (x : PairsAt h vs ps) : ∀ {i : Nat} {v : Value}, vs[i]? = some v → ∃ t a b ta tb, v = .ref t ∧ ps[i]? = some (a, b) ∧ h.IsTuple t #[.int a ta, .int b tb] := by
  induction x with
  | nil => intro i v e; simp at e
  | @cons t0 _ _ _ _ _ _ ht _ ih =>
    intro i v e
    cases i with
    | zero =>
      have e' : Value.ref t0 = v := by simpa using e
      exact ⟨_, _, _, _, _, e'.symm, rfl, ht⟩
    | succ i =>
      obtain ⟨t, a, b, ta, tb, e1, e2, e3⟩ := ih (i := i) (v := v) (by simpa using e)
      exact ⟨t, a, b, ta, tb, e1, by simpa using e2, e3⟩
theorem tuple_keep {h h' : Heap} (k : ∀ b o, h.get? b = some o → h'.get? b = some o) : ∀ t vals, h.IsTuple t vals → h'.IsTuple t vals := fun t _ ⟨o, ho, r⟩ => ⟨o, k t o ho, r⟩
theorem ownOff_nil {adr : List Addr} : OwnOff [] adr := fun _ h => nomatch h
theorem ownOff_cons {p : Addr × Obj} {l : List (Addr × Obj)} {adr : List Addr} (h1 : ∀ b ∈ adr, p.1 ≠ b) (h2 : OwnOff l adr) : OwnOff (p :: l) adr := fun q hq => by
  rcases List.mem_cons.mp hq with rfl | hq
  · exact h1
  · exact h2 q hq
/-- a comprehension whose source is reckoned -/
def NSrc (P : Value → Shared → Prop) (xv : Value) (s₁ : Shared) : Prop := P xv s₁
section
variable {prog : Program} {w : World} {A : Around} {E : Value → Shared → Prop} {s : Shared} {h₀ : Heap} {L : Addr} {m : Str → Option Value} {env : Env}
theorem nm_comp {elt iter : Expr} {x : Str} {px : Pos} {scope : Scope} {cl : List (Str × Addr)} {pos : Pos} {Q : Value → Shared → Prop} (F₀ : Fr h₀ L s.heap m)
    (hclos : closureFor scope env = pure cl) (hcell : ∀ y ∈ scope.names, y.2 ≠ .cell) (hkind : scope.kind = .function)
    (hnames : ∀ y ∈ scope.names, y.2 = .local → scope.names.lookup y.1 = some .local) (hx : scope.names.lookup x = some .local)
    (h : wpAny (model prog w) A (eval iter env) (NSrc (CompSrc prog w A h₀ L m env elt x scope cl (fun s₂ => FinE h₀ L m s₂ Q))) E s)
    (hs : ∀ x, foldedSetIterable iter env x = pure x := by intro _; rfl) :
    wpAny (model prog w) A (eval (.ListComp elt [⟨.Name x px, iter, [], 0⟩] scope pos) env) Q E s := LCg.ListComp_U F₀ hclos hcell hkind hnames hx h hs
theorem compEnd_mono {h₀ : Heap} {L I C D : Addr} {m : Str → Option Value} {s₁ s₂ : Shared} {oI oC oD : Obj} {S : List (Addr × Obj) → Prop} {rest rest' : Value → List (Addr × Obj) → Prop} {y : Value}
    (hr : ∀ nw, rest y nw → rest' y nw) (h : CompEnd h₀ L m s₁ I oI C oC D oD S rest y s₂) : CompEnd h₀ L m s₁ I oI C oC D oD S rest' y s₂ := by
  obtain ⟨h', tk, nw, e, F, N, off, hS, r⟩ := h
  exact ⟨h', tk, nw, e, F, N, off, hS, hr nw r⟩
theorem compRest_ind {elt : Expr} {x : Str} {scope : Scope} {cl : List (Str × Addr)} {S : List (Addr × Obj) → Prop} {P : Nat → Value → Prop} {Fin : List Value → List (Addr × Obj) → Prop} {n : Nat} (Inv : Nat → List Value → List (Addr × Obj) → Prop)
    (step : ∀ i ys nw, i < n → Inv i ys nw → ∀ v I oI C oC D m₂ h tk (E' : Value → Shared → Prop), P i v → NsObj oC m₂ → m₂ x = some v → Fr h₀ L h m → News h₀ L h ((I, oI) :: (C, oC) :: (D, lst ys) :: nw) → Off3 I C D nw → ((@Ne Nat I C) ∧ (@Ne Nat I D) ∧ (@Ne Nat C D)) →
      wpAny (model prog w) A (eval elt (compEnvC scope cl C env)) (CompEnd h₀ L m { s with heap := h, toks := tk } I oI C oC D (lst ys) S (fun y nw' => Inv (i + 1) (ys ++ [y]) nw')) E' { s with heap := h, toks := tk })
    (fin : ∀ ys nw, Inv n ys nw → Fin ys nw) : ∀ (j i : Nat) (ys : List Value) (nw : List (Addr × Obj)), i + j = n → Inv i ys nw → CompRest prog w A h₀ L m env elt x scope cl s S P Fin j i ys nw := by
  intro j
  induction j with
  | zero =>
    intro i ys nw hij hI
    obtain rfl : i = n := by omega
    exact CompRest.zero (fin ys nw hI)
  | succ j ih =>
    intro i ys nw hij hI
    refine CompRest.succ fun v I oI C oC D m₂ h tk E' hv hC hm F N off ne => ?_
    refine wpAny_mono (step i ys nw (by omega) hI v I oI C oC D m₂ h tk E' hv hC hm F N off ne) (fun y s₂ hy => compEnd_mono (fun nw' hr => ih (i + 1) _ nw' (by omega) hr) hy) fun _ _ e => e
theorem compRestT_ind {ct elt : Expr} {x : Str} {scope : Scope} {cl : List (Str × Addr)} {S : List (Addr × Obj) → Prop} {P : Nat → Value → Prop} {Fin : List Value → List (Addr × Obj) → Prop} {n : Nat} (Inv : Nat → List Value → List (Addr × Obj) → Prop)
    (step : ∀ i ys nw, i < n → Inv i ys nw → ∀ v I oI C oC D m₂ h tk (E' : Value → Shared → Prop), P i v → NsObj oC m₂ → m₂ x = some v → Fr h₀ L h m → News h₀ L h ((I, oI) :: (C, oC) :: (D, lst ys) :: nw) → Off3 I C D nw → ((@Ne Nat I C) ∧ (@Ne Nat I D) ∧ (@Ne Nat C D)) →
      wpAny (model prog w) A (isTrue ct (compEnvC scope cl C env) (eval ct (compEnvC scope cl C env))) (fun ok s' => if ok = true then
        wpAny (model prog w) A (eval elt (compEnvC scope cl C env)) (CompEnd h₀ L m { s with heap := h, toks := tk } I oI C oC D (lst ys) S (fun y nw' => Inv (i + 1) (ys ++ [y]) nw')) E' s'
        else CompEnd h₀ L m { s with heap := h, toks := tk } I oI C oC D (lst ys) S (fun _ nw' => Inv (i + 1) ys nw') Value.none s') E' { s with heap := h, toks := tk })
    (fin : ∀ ys nw, Inv n ys nw → Fin ys nw) : ∀ (j i : Nat) (ys : List Value) (nw : List (Addr × Obj)), i + j = n → Inv i ys nw → LCt.CompRestT prog w A h₀ L m env ct elt x scope cl s S P Fin j i ys nw := by
  intro j
  induction j with
  | zero =>
    intro i ys nw hij hI
    obtain rfl : i = n := by omega
    exact LCt.CompRestT.zero (fin ys nw hI)
  | succ j ih =>
    intro i ys nw hij hI
    refine LCt.CompRestT.succ fun v I oI C oC D m₂ h tk E' hv hC hm F N off ne => ?_
    refine wpAny_mono (step i ys nw (by omega) hI v I oI C oC D m₂ h tk E' hv hC hm F N off ne) (fun ok s₂ hy => ?_) fun _ _ e => e
    cases ok with
    | true =>
      simp only [if_true] at hy ⊢
      exact wpAny_mono hy (fun y s₃ hz => compEnd_mono (fun nw' hr => ih (i + 1) _ nw' (by omega) hr) hz) fun _ _ e => e
    | false =>
      simp only [Bool.false_eq_true, if_false] at hy ⊢
      exact compEnd_mono (fun nw' hr => ih (i + 1) _ nw' (by omega) hr) hy
theorem nm_compT {ct elt iter : Expr} {x : Str} {px : Pos} {scope : Scope} {cl : List (Str × Addr)} {pos : Pos} {Q : Value → Shared → Prop} (F₀ : Fr h₀ L s.heap m)
    (hclos : closureFor scope env = pure cl) (hcell : ∀ y ∈ scope.names, y.2 ≠ .cell) (hkind : scope.kind = .function)
    (hnames : ∀ y ∈ scope.names, y.2 = .local → scope.names.lookup y.1 = some .local) (hx : scope.names.lookup x = some .local)
    (h : wpAny (model prog w) A (eval iter env) (NSrc (LCt.CompSrcT prog w A h₀ L m env ct elt x scope cl (fun s₂ => FinE h₀ L m s₂ Q))) E s)
    (hs : ∀ x, foldedSetIterable iter env x = pure x := by intro _; rfl) :
    wpAny (model prog w) A (eval (.ListComp elt [⟨.Name x px, iter, [ct], 0⟩] scope pos) env) Q E s := LCt.ListComp_T F₀ hclos hcell hkind hnames hx h hs
theorem nm_compTA {ct elt iter : Expr} {x y : Str} {px py : Pos} {scope : Scope} {cl : List (Str × Addr)} {pos spos : Pos} {Q : Flow → Shared → Prop} (F₀ : Fr h₀ L s.heap m) (hLe : env.locals = L)
    (hsw : swapsWith (.ListComp elt [⟨.Name x px, iter, [ct], 0⟩] scope pos) (some (.Name y py)) spos.line env = pure true)
    (hclos : closureFor scope env = pure cl) (hcell : ∀ z ∈ scope.names, z.2 ≠ .cell) (hkind : scope.kind = .function)
    (hnames : ∀ z ∈ scope.names, z.2 = .local → scope.names.lookup z.1 = some .local) (hx : scope.names.lookup x = some .local)
    (hy : env.kindOf y = some .local) (hp : (env.scope.kind == .class || (env.scope.kind == .module && env.locals != env.globals)) = false)
    (h : wpAny (model prog w) A (eval iter env) (NSrc (LCt.CompSrcT prog w A h₀ L m env ct elt x scope cl (fun s₂ => FinA h₀ L m s₂ y Q))) E s)
    (hs : ∀ x, foldedSetIterable iter env x = pure x := by intro _; rfl) :
    wpAny (model prog w) A (exec (.Assign [.Name y py] (.ListComp elt [⟨.Name x px, iter, [ct], 0⟩] scope pos) spos) env) Q E s := LCt.Assign_ListComp_T F₀ hLe hsw hclos hcell hkind hnames hx hy hp h hs
end
end Mine
end
section
open PySem PySem.W PySem.Calls PyProof.Rows PyProof.Rows.LCg
namespace Mine
/-- a def's way back: what it hands on, over the caller's facts -/
def NRet (h₀ : Heap) (L : Addr) (m : Str → Option Value) (before : Heap) (news : List (Addr × Obj)) (g : Heap) (Q : Value → Shared → Prop) (v : Value) (s' : Shared) : Prop :=
  ∃ L' m' res, Fr g L' s'.heap m' ∧ News g L' s'.heap res ∧
    (Fr h₀ L s'.heap m → News h₀ L s'.heap res → (∀ b o, before.get? b = some o → b ∉ news.map (·.1) → s'.heap.get? b = some o) → (∀ p ∈ res, p.1 ∈ news.map (·.1) ∨ before.get? p.1 = none) → Q v s')
theorem NRet.intro {h₀ : Heap} {L : Addr} {m : Str → Option Value} {before : Heap} {news : List (Addr × Obj)} {g : Heap} {Q : Value → Shared → Prop} {v : Value} {s' : Shared} {L' : Addr} {m' : Str → Option Value} {all : List (Addr × Obj)} (res : List (Addr × Obj))
    (F : Fr g L' s'.heap m') (N : News g L' s'.heap all) (hs : ∀ p ∈ res, p ∈ all)
    (k : Fr h₀ L s'.heap m → News h₀ L s'.heap res → (∀ b o, before.get? b = some o → b ∉ news.map (·.1) → s'.heap.get? b = some o) → (∀ p ∈ res, p.1 ∈ news.map (·.1) ∨ before.get? p.1 = none) → Q v s') : NRet h₀ L m before news g Q v s' :=
  ⟨L', m', res, F, fun p hp => N p (hs p hp), k⟩
section
variable {prog : Program} {w : World} {A A₀ : Around} {E : Value → Shared → Prop} {s : Shared} {K : Frag} {L : Addr} {h₀ base : Heap} {m mg mb : Str → Option Value} {news : List (Addr × Obj)} {p : Program} {loose : List Str} {mean : ExcName → Option Value} {Q : Value → Shared → Prop}
theorem nm_lookup : ∀ ps : List (Str × Value), (fun y => ps.lookup y) = kstB (fun _ => none) ps
  | [] => rfl
  | p :: r => by
    funext y
    show ((p :: r).lookup y) = (if y = p.1 then some p.2 else kstB (fun _ => none) r y)
    rw [← nm_lookup r, List.lookup_cons]
    by_cases h : y = p.1
    · simp [h]
    · have : (y == p.1) = false := by simpa using h
      simp only [this, if_neg h]
theorem nret_back {g : Heap} {L' : Addr} {m' : Str → Option Value} {res : List (Addr × Obj)} {v : Value} {s' : Shared} (F : Fr h₀ L s.heap m) (N : News h₀ L s.heap news) (hkeep : ∀ b o, s.heap.get? b = some o → b ∉ news.map (·.1) → g.get? b = some o) (st : h₀.StaysIn g)
    (F' : Fr g L' s'.heap m') (N' : News g L' s'.heap res)
    (k : Fr h₀ L s'.heap m → News h₀ L s'.heap res → (∀ b o, s.heap.get? b = some o → b ∉ news.map (·.1) → s'.heap.get? b = some o) → (∀ p ∈ res, p.1 ∈ news.map (·.1) ∨ s.heap.get? p.1 = none) → Q v s') : Q v s' := by
  have keep : ∀ b o, s.heap.get? b = some o → b ∉ news.map (·.1) → s'.heap.get? b = some o := fun b o e n => F'.keep b o (hkeep b o e n)
  have fresh : ∀ q ∈ res, q.1 ∈ news.map (·.1) ∨ s.heap.get? q.1 = none := fun q hq => by
    by_cases hm : q.1 ∈ news.map (·.1)
    · exact .inl hm
    · refine .inr ?_
      cases e : s.heap.get? q.1 with
      | none => rfl
      | some o => have := hkeep _ _ e hm; rw [(N' q hq).2.2] at this; cases this
  have nm : ∀ b o, h₀.get? b = some o → b ∉ news.map (·.1) := fun b o e q => by
    obtain ⟨p, hp, rfl⟩ := List.mem_map.mp q
    rw [(N p hp).2.2] at e; cases e
  obtain ⟨oL, es, ep, hL, hLd, hLk, hLf⟩ := F.ns
  have nL : L ∉ news.map (·.1) := fun q => by
    obtain ⟨p, hp, e⟩ := List.mem_map.mp q
    exact (N p hp).2.1 e
  refine k ⟨⟨oL, es, ep, keep _ _ hL nL, hLd, hLk, hLf⟩, fun b o e => keep _ _ (F.keep b o e) (nm b o e), F.above⟩ (fun q hq => ⟨(N' q hq).1, fun e => ?_, ?_⟩) keep fresh
  · have := (N' q hq).2.2; rw [e, hkeep _ _ hL nL] at this; cases this
  · cases e : h₀.get? q.1 with
    | none => rfl
    | some o => have := (N' q hq).2.2; rw [st _ _ e] at this; cases this
theorem nm_call (ps : List (Str × Value)) {env : Env} {outer : List Env} {name qual : Str} {params : Arguments} {body : List Stmt} {scope : Scope} {dV kV doc pm cdv ct oc : Value} {an od : Option Addr} {osl : Array (Option Value)} {f : Addr} {args : List Value} {binds : List (Str × Value)}
    (B : Below A₀ base outer h₀) (F : Fr h₀ L s.heap m) (X₀ : K.In h₀) (N : News h₀ L s.heap news) (T : Top p loose mean mg mb h₀) (hA : A.frames = some (env :: outer)) (hf : env.frame = some L) (hke : env.scope.kind = .function)
    (ho : K.lookup f = some ⟨oc, od, .func (fnOf name qual params body scope dV kV doc pm an cdv ct), osl⟩) (hcd : codeIn K cdv qual = true) (hroom : A.depth < recursionLimit)
    (hbind : BindsTo s (fnOf name qual params body scope dV kV doc pm an cdv ct) ⟨args, []⟩ binds) (hloc : ∀ y ∈ binds, scope.names.lookup y.1 = some .local) (hps : binds.reverse = ps)
    (h : ∀ g L' h₁, (∀ b o, s.heap.get? b = some o → b ∉ news.map (·.1) → g.get? b = some o) → Fr h₀ L g m → Fr g L' h₁ (kstB (fun _ => none) ps) → News g L' h₁ news → (∀ p ∈ news, p.1 < L') → Below A base (env :: outer) g → K.In g → Top p loose mean mg mb g →
      wpAny (model prog w) (A.deeper (envOf qual scope L' f cdv)) (execs body (envOf qual scope L' f cdv))
        (fun fl s' => NRet h₀ L m s.heap news g Q (match fl with | .ret v => v | _ => .none) s') (fun _ _ => False) { s with heap := h₁, toks := s.toks + binds.length })
    (hco : scope.isCoroutine = false) (hgen : scope.isGenerator = false) (hk : scope.kind = .function)
    (hcell : ∀ x ∈ scope.names, x.2 ≠ .cell) : wpAny (model prog w) A (call (.ref f) args) Q E s := by
  refine wpAny_call ?_
  have X := X₀.keeps F.keep
  have em : (fun y => binds.reverse.lookup y) = kstB (fun _ => none) ps := by rw [hps]; exact nm_lookup ps
  obtain ⟨FG, BG, st, lv⟩ := groundX (R := fun _ _ => True) B F N hA hf hke
  refine codeAny_call_def (fd := fnOf name qual params body scope dV kV doc pm an cdv ct) (body := body) (binds := binds) hroom (X _ _ ho) rfl (T.nolimit.keeps F.keep) (codeRec_of X hcd) rfl hbind hcell hloc (fun h₁ hns hk₁ => ?_) hco hgen hk
  have hkeep : ∀ b o, s.heap.get? b = some o → b ∉ news.map (·.1) → (hideAll s.heap (news.map (·.1))).get? b = some o := fun b o e n => hideAll_get _ e n
  refine wpAny_mono (h _ s.heap.objs.size h₁ hkeep FG ⟨em ▸ hns, fun b o e => hk₁ b o (of_hideAll _ e), Nat.le_of_eq (hideAll_size _ _)⟩
    (fun p hp => ⟨hk₁ _ _ (N p hp).1, Nat.ne_of_lt (Heap.lt_size (N p hp).1), hideAll_none _ (List.mem_map_of_mem hp)⟩) (fun p hp => Heap.lt_size (N p hp).1) BG (X₀.keeps st) (T.keeps st)) (fun fl s' hl => ?_) fun _ _ y => y.elim
  obtain ⟨L', m', res, F', N', k⟩ := hl
  exact nret_back F N hkeep st F' N' k
theorem nm_callC (ps : List (Str × Value)) {env : Env} {outer : List Env} {name qual : Str} {params : Arguments} {body : List Stmt} {scope : Scope} {dV kV doc pm cdv ct oc : Value} {an od : Option Addr} {osl : Array (Option Value)} {f : Addr} {args : List Value} {binds : List (Str × Value)}
    (B : Below A₀ base outer h₀) (F : Fr h₀ L s.heap m) (X₀ : K.In h₀) (N : News h₀ L s.heap news) (T : Top p loose mean mg mb h₀) (hA : A.frames = some (env :: outer)) (hf : env.frame = some L) (hke : env.scope.kind = .function)
    (ho : K.lookup f = some ⟨oc, od, .func (fnOf name qual params body scope dV kV doc pm an cdv ct), osl⟩) (hcd : codeIn K cdv qual = true) (hroom : A.depth < recursionLimit)
    (hbind : BindsTo s (fnOf name qual params body scope dV kV doc pm an cdv ct) ⟨args, []⟩ binds) (hkind : (binds.all fun y => scope.names.lookup y.1 == some .local || scope.names.lookup y.1 == some .cell) = true)
    (hnd : ((cellsFrom 0 scope.names []).map (·.1)).Nodup) (hps : ∀ L', bindL (envOfC qual scope L' f cdv).kindOf binds (fun _ => none) = kstB (fun _ => none) ps)
    (h : ∀ g L' h₁ tk cells, (∀ b o, s.heap.get? b = some o → b ∉ news.map (·.1) → g.get? b = some o) → Fr h₀ L g m → Fr g L' h₁ (kstB (fun _ => none) ps) → News g L' h₁ (cells ++ news) →
      CellsAre (bindC (envOfC qual scope L' f cdv).kindOf binds fun _ => none) (cellsFrom (L' + 1) scope.names []) cells → (∀ p ∈ news, p.1 < L') → Below A base (env :: outer) g → K.In g → Top p loose mean mg mb g →
      wpAny (model prog w) (A.deeper (envOfC qual scope L' f cdv)) (execs body (envOfC qual scope L' f cdv))
        (fun fl s' => NRet h₀ L m s.heap news g Q (match fl with | .ret v => v | _ => .none) s') (fun _ _ => False) { s with heap := h₁, toks := tk })
    (hco : scope.isCoroutine = false) (hgen : scope.isGenerator = false) (hk : scope.kind = .function) : wpAny (model prog w) A (call (.ref f) args) Q E s := by
  refine wpAny_call ?_
  have X := X₀.keeps F.keep
  obtain ⟨FG, BG, st, lv⟩ := groundX (R := fun _ _ => True) B F N hA hf hke
  refine codeAny_call_function hroom (X _ _ ho) rfl hco hgen rfl (codeRec_of X hcd) (hbind _ _ _ _ ?_)
  refine wpAny_newFunctionEnv_cells hk (kindsX hkind _) fun env' he s' x => ?_
  subst he
  refine ⟨(T.nolimit.keeps F.keep).keeps x.toInCall.keep, codeAny_func ?_⟩
  obtain ⟨h₁, tk, rfl, _⟩ := x.done
  have hk₁ := x.toInCall.keep
  have hkeep : ∀ b o, s.heap.get? b = some o → b ∉ news.map (·.1) → (hideAll s.heap (news.map (·.1))).get? b = some o := fun b o e n => hideAll_get _ e n
  obtain ⟨cells, NC, Y⟩ := Cl.news (h₀ := s.heap) (Nat.le_refl _) fun n c hm => ⟨x.cell n c (lookup_of_mem_nodup (cellsFrom_names scope.names 0 (s.heap.objs.size + 1) [] [] rfl ▸ hnd) hm), x.above n c hm⟩
  refine wpAny_mono (h _ s.heap.objs.size h₁ tk cells hkeep FG ⟨(hps _) ▸ x.toInCall.ns, fun b o e => hk₁ b o (of_hideAll _ e), Nat.le_of_eq (hideAll_size _ _)⟩ (fun p hp => ?_) Y (fun p hp => Heap.lt_size (N p hp).1) BG (X₀.keeps st) (T.keeps st)) (fun fl s' hl => ?_) fun _ _ y => y.elim
  · rcases List.mem_append.mp hp with hp | hp
    · refine ⟨(NC p hp).1, (NC p hp).2.1, ?_⟩
      cases q : (hideAll s.heap (news.map (·.1))).get? p.1 with
      | none => rfl
      | some o => have := of_hideAll _ q; rw [(NC p hp).2.2] at this; cases this
    · exact ⟨hk₁ _ _ (N p hp).1, Nat.ne_of_lt (Heap.lt_size (N p hp).1), hideAll_none _ (List.mem_map_of_mem hp)⟩
  obtain ⟨L', m', res, F', N', k⟩ := hl
  exact nret_back F N hkeep st F' N' k
end
end Mine
end
section
open PySem PySem.W PySem.Calls PyProof.Rows PyProof.Rows.LCg
namespace Mine
/-- what a call finds around it -/
structure Cx (w : World) (mean : ExcName → Option Value) (mg mb : Str → Option Value) (cs : Scope) (outer : List Env) (A₀ : Around) (base h₀ : Heap) (L : Addr) (m : Str → Option Value) (s : Shared) : Prop where
  B : Below A₀ base outer h₀
  F : Fr h₀ L s.heap m
  X : (hd.heap_39 w.params).In h₀
  T : Top hd.view_39 (looseW hd.view_39 []) mean mg mb h₀
  hk : cs.kind = .function
def IsWell (o : Obj) (NB : Addr) (k : Int) : Prop := ∃ ta st ts n, o = listOf #[.ref NB, .int k ta, .int st ts] n ∧ 0 ≤ st ∧ st < 2147483647
def Nums (h : Heap) (NB : Addr) : Prop := ∃ vs ns, h.IsList NB vs.toArray ∧ IntsAre vs ns ∧ ns.length ≤ 40
theorem Nums.mono {h h' : Heap} {NB : Addr} (x : Nums h NB) (k : ∀ o, h.get? NB = some o → h'.get? NB = some o) : Nums h' NB := by
  obtain ⟨vs, ns, hl, r⟩ := x
  exact ⟨vs, ns, hl.at k, r⟩
end Mine
end
section
open PySem PySem.W PySem.Calls PyProof.Rows PyProof.Rows.LCg
namespace Mine
local macro_rules | `(tactic| tb_start) => `(tactic| repeat' (first | (k_unfold; (try dsimp only)) | walk1 | (dsimp only; walk1) | fail "no step"))
-- the call's head: its body, over a ground of its own
local macro_rules | `(tactic| ktr_enter) => `(tactic| (refine' nm_call ?ps ?k1 ?k2 ?k3 ?k4 ?k5 ?kA ?kF ?kK ?k6 ?k7 ?k8 ?k9 ?kB ?kP ?_ ?c2 ?c3 ?c4 ?c5; (case kA => exact rfl); (case kF => exact rfl); (case kK => assumption); (case k1 => k_asm); (case k2 => k_asm); (case k3 => k_asm); (case k4 => k_asm); (case k5 => k_asm); (case k6 => k_is); (case k7 => k_is); (case k8 => ktr_room); (case k9 => exact BindsTo.of_eq rfl); (case c5 => decide); (case kB => exact locs rfl); (case c2 => exact rfl); (case c3 => exact rfl); (case c4 => exact rfl)))
set_option maxHeartbeats 8000000 in
theorem draw_ok {w : World} {mean : ExcName → Option Value} {mg mb : Str → Option Value} {dp un : Nat} {gd : Option (List Code)} {cn : Str} {cs : Scope} {a : Addr} {ccd : Value} {cl : List (Str × Addr)} {outer : List Env} {A₀ : Around} {base h₀ : Heap} {L : Addr} {m : Str → Option Value} {s : Shared} {Q E : Value → Shared → Prop}
   {W NB : Addr} {o : Obj} {k size : Int} {tz : Tok}
   (C : Cx w mean mg mb cs outer A₀ base h₀ L m s) (N : News h₀ L s.heap [(W, o)]) (hw : IsWell o NB k) (hnum : Nums s.heap NB) (hne : NB ≠ W) (h0 : 0 ≤ k) (h1 : k ≤ 1000) (hz : 0 < size) (hz2 : size < 1000)
   (hdp : dp + 1 < recursionLimit) (hun : un + 8 < cLine)
   (hret : ∀ (r : Int) (t : Tok) (o' : Obj) (h' : Heap) (tk' : Nat), 0 ≤ r → r < size → IsWell o' NB (k + 1) → Fr h₀ L h' m → News h₀ L h' [(W, o')] → (∀ b o, s.heap.get? b = some o → b ≠ W → h'.get? b = some o) → Q (.int r t) { s with heap := h', toks := tk' }) :
   wpAny (model PySem.Challenge.rw_nm0001_01.row.prog w) (ktrTop dp un gd cn cs L a ccd cl outer) (call (.ref 27) [.ref W, .int size tz]) Q E s := by
  w_top off
  have : (PySem.Challenge.rw_nm0001_01 = PySem.Challenge.rw_nm0001_01) ∧ (hd.heap_39 w.params = hd.heap_39 w.params) := by k_fill; exact ⟨rfl, rfl⟩
  clear this
  obtain ⟨B, F, X, T, hk⟩ := C
  obtain ⟨ta, st, ts, n1, rfl, hs0, hs1⟩ := hw
  obtain ⟨nbs, ns, hl, hi, hlen⟩ := hnum
  k_dflt ktr_enter
  case ps => exact [(Str.ofString "size", .int size tz), (Str.ofString "well", .ref W)]
  case kP => rfl
  intro g' L' h' hkeep FG F' N' lt' B' X' T'
  have hlg := hl.at fun o e => hkeep NB o e (by simpa using hne)
  clear hl hkeep lt' FG F X T B N
  (try dsimp only); (try k_fold)
  tb_start
  all_goals dsimp only
  all_goals (
    refine NRet.intro _ (by k_asm) (by k_asm) (fun _ h => h) (fun F₁ N₁ hkeep fresh => ?_)
    exact hret _ _ _ _ _ (fmod_lo _ hz) (fmod_hi _ hz) ⟨_, _, _, _, rfl, fmod_lo _ (by decide), fmod_hi _ (by decide)⟩ F₁ N₁ (fun b o e hb => hkeep b o e (by simpa using hb)))
theorem draw_call {w : World} {mean : ExcName → Option Value} {mg mb : Str → Option Value} {dp un : Nat} {gd : Option (List Code)} {cn : Str} {cs : Scope} {a : Addr} {ccd : Value} {cl : List (Str × Addr)} {outer : List Env} {A₀ : Around} {base h₀ : Heap} {L : Addr} {m : Str → Option Value} {s : Shared} {Q E : Value → Shared → Prop}
   {W NB : Addr} {o : Obj} {k size : Int} {tz : Tok} {news : List (Addr × Obj)} {u : Obj → List (Addr × Obj)}
   (B : Below A₀ base outer h₀) (F : Fr h₀ L s.heap m) (X : (hd.heap_39 w.params).In h₀) (T : Top hd.view_39 (looseW hd.view_39 []) mean mg mb h₀) (hk : cs.kind = .function)
   (N : News h₀ L s.heap news) (U : UpdF W o news u) (hw : IsWell o NB k) (hnum : Nums h₀ NB) (hne : NB ≠ W) (h0 : 0 ≤ k) (h1 : k ≤ 1000) (hz : 0 < size) (hz2 : size < 1000)
   (hdp : dp + 1 < recursionLimit) (hun : un + 8 < cLine)
   (hret : ∀ (r : Int) (t : Tok) (o' : Obj) (h' : Heap) (tk' : Nat), 0 ≤ r → r < size → IsWell o' NB (k + 1) → Fr h₀ L h' m → News h₀ L h' (u o') → Q (.int r t) { s with heap := h', toks := tk' }) :
   wpAny (model PySem.Challenge.rw_nm0001_01.row.prog w) (ktrTop dp un gd cn cs L a ccd cl outer) (call (.ref 27) [.ref W, .int size tz]) Q E s :=
  draw_ok ⟨B, F, X, T, hk⟩ (fun p hp => by rw [List.mem_singleton.mp hp]; exact N _ (updF_mem U)) hw (hnum.mono fun o e => F.keep _ o e) hne h0 h1 hz hz2 hdp hun
    fun r t o' h' tk' a b c F' N' hk' => hret r t o' h' tk' a b c F' (news_back U N N' hk')
end Mine
end
section
open PySem PySem.W PySem.Calls PyProof.Rows PyProof.Rows.LCg
namespace Mine
local macro_rules | `(tactic| tb_start) => `(tactic| repeat' (first | (k_unfold; (try dsimp only)) | walk1 | (dsimp only; walk1) | fail "no step"))
local macro_rules | `(tactic| ktr_enter) => `(tactic| (refine' nm_call ?ps ?k1 ?k2 ?k3 ?k4 ?k5 ?kA ?kF ?kK ?k6 ?k7 ?k8 ?k9 ?kB ?kP ?_ ?c2 ?c3 ?c4 ?c5; (case kA => exact rfl); (case kF => exact rfl); (case kK => assumption); (case k1 => k_asm); (case k2 => k_asm); (case k3 => k_asm); (case k4 => k_asm); (case k5 => k_asm); (case k6 => k_is); (case k7 => k_is); (case k8 => ktr_room); (case k9 => exact BindsTo.of_eq rfl); (case c5 => decide); (case kB => exact locs rfl); (case c2 => exact rfl); (case c3 => exact rfl); (case c4 => exact rfl)))
local macro_rules | `(tactic| walk_at "exec For Name Call cons nil") => `(tactic| (k_here; refine nm_for ?_ ?hs; (case hs => intro _; with_unfolding_all rfl)))
local macro_rules | `(tactic| walk_at "exec For Tuple Name cons nil") => `(tactic| (k_here; refine nm_for ?_ ?hs; (case hs => intro _; with_unfolding_all rfl)))
local macro_rules | `(tactic| walk_at "exec For Name Name cons nil") => `(tactic| (k_here; refine nm_for ?_ ?hs; (case hs => intro _; with_unfolding_all rfl)))
local macro_rules | `(tactic| walk_at "call ref") => `(tactic| (k_here; k_dflt (refine' draw_call ?B ?F ?X ?T ?hk ?N ?U ?hw ?hnum ?hne ?h0 ?h1 ?hz ?hz2 ?hdp ?hun ?_; (case B => k_asm); (case F => k_asm); (case X => k_asm); (case T => k_asm); (case hk => first | rfl | assumption); (case N => k_asm); (case U => k_updF); (case hw => assumption); (case hnum => assumption); (case hne => assumption); (case h0 => omega); (case h1 => omega); (case hz => omega); (case hz2 => omega); (case hdp => ktr_room); (case hun => ktr_units)); intro r' t' o' h' tk' hr0' hr1' hw' F' N'; (try dsimp only at N')))
local macro_rules | `(tactic| walk_at "call builtin:list.append") => `(tactic| (k_here; (with_reducible show wpAny _ _ (call (Value.builtin _) [Value.ref _, _]) _ _ _); k_dflt (refine' nm_append ?F ?N ?U ?z ?_; (case F => k_asm); (case N => k_asm); (case U => k_updF); (case z => first | omega | (simp only [List.length_append, List.length_cons, List.length_nil]; omega))); intro h' F' N'; (try dsimp only at N')))
local macro_rules | `(tactic| walk_at "call builtin:list.pop") => `(tactic| (k_here; (with_reducible show wpAny _ _ (call (Value.builtin _) [Value.ref _, Value.int _ _]) _ _ _); k_dflt (refine' nm_popInts ?F ?N ?U ?i ?h0 ?h1 ?z ?_; (case F => k_asm); (case N => k_asm); (case U => k_updF); (case i => assumption); (case h0 => omega); (case h1 => omega); (case z => omega)); intro h' t' F' N' hi'; (try dsimp only at N')))
def places : List Int := [10, 11, 12, 13, 14, 15, 16, 17, 28, 29, 30, 7]
structure GS where
  o : Obj
  lv : List Value
  ln : Nat
  fv : List Value
  fn : Nat
abbrev placesV : Array Value := #[.int 10 199, .int 11 200, .int 12 201, .int 13 202, .int 14 203, .int 15 204, .int 16 205, .int 17 206, .int 28 207, .int 29 208, .int 30 209, .int 7 210]
theorem perm_erase : ∀ (ls : List Int) (k : Nat), k < ls.length → (ls.getD k 0 :: ls.eraseIdx k).Perm ls
  | [], _, h => absurd h (Nat.not_lt_zero _)
  | _ :: _, 0, _ => List.Perm.refl _
  | x :: r, k + 1, h => (List.Perm.swap _ _ _).trans (List.Perm.cons x (perm_erase r k (Nat.lt_of_succ_lt_succ h)))
theorem perm_move {fs ls pl : List Int} {k : Nat} (h : (fs ++ ls).Perm pl) (hk : k < ls.length) : ((fs ++ [ls.getD k 0]) ++ ls.eraseIdx k).Perm pl := by
  refine List.Perm.trans ?_ h
  rw [List.append_assoc]
  refine List.Perm.append_left fs ?_
  exact perm_erase ls k hk
set_option maxHeartbeats 8000000 in
theorem goals_ok {w : World} {mean : ExcName → Option Value} {mg mb : Str → Option Value} {dp un : Nat} {gd : Option (List Code)} {cn : Str} {cs : Scope} {a : Addr} {ccd : Value} {cl : List (Str × Addr)} {outer : List Env} {A₀ : Around} {base h₀ : Heap} {L : Addr} {m : Str → Option Value} {s : Shared} {Q E : Value → Shared → Prop}
   {W NB : Addr} {o : Obj} {k : Int} {n : Nat} {tz : Tok}
   (C : Cx w mean mg mb cs outer A₀ base h₀ L m s) (N : News h₀ L s.heap [(W, o)]) (hw : IsWell o NB k) (hnum : Nums s.heap NB) (hne : NB ≠ W) (h0 : 0 ≤ k) (h1 : k ≤ 900) (hn : n ≤ 12)
   (hdp : dp + 2 < recursionLimit) (hun : un + 16 < cLine)
   (hret : ∀ (G : Addr) (o' : Obj) (vs : List Value) (gs : List Int) (nn : Nat) (h' : Heap) (tk' : Nat), IsWell o' NB (k + n) → IntsAre vs gs → gs.length = n → (∃ ls, (gs ++ ls).Perm places) → Fr h₀ L h' m → News h₀ L h' [(W, o'), (G, listOf vs.toArray nn)] → (∀ b o, s.heap.get? b = some o → b ≠ W → h'.get? b = some o) → s.heap.get? G = none → Q (.ref G) { s with heap := h', toks := tk' }) :
   wpAny (model PySem.Challenge.rw_nm0001_01.row.prog w) (ktrTop dp un gd cn cs L a ccd cl outer) (call (.ref 34) [.ref W, .int (n : Int) tz]) Q E s := by
  w_top off
  have : (PySem.Challenge.rw_nm0001_01 = PySem.Challenge.rw_nm0001_01) ∧ (hd.heap_39 w.params = hd.heap_39 w.params) := by k_fill; exact ⟨rfl, rfl⟩
  clear this
  obtain ⟨B, F, X, T, hk⟩ := C
  k_dflt ktr_enter
  case ps => exact [(Str.ofString "many", .int (n : Int) tz), (Str.ofString "well", .ref W)]
  case kP => rfl
  intro g' L' h' hkeep FG F' N' lt' B' X' T'
  have hng := hnum.mono fun o e => hkeep NB o e (by simpa using hne)
  clear hkeep lt' FG F X T B N
  have hT20 : IsTup g' 20 placesV := ⟨_, X' 20 _ (by k_is), rfl, _, rfl⟩
  (try dsimp only); (try k_fold)
  tb_start
  rename_i Lft c1 _ l1 Fnd _ l2 Tp _ l3 _ _ _ _ _ _ _ _ _ _ hr F₁ N₁ _
  refine NFor.rangeN (n := n) (fun c : GS => [(Fnd, listOf c.fv.toArray c.fn), (Lft, listOf c.lv.toArray c.ln), (W, c.o)]) (fun _ => [(Str.ofString "left", .ref Lft), (Str.ofString "found", .ref Fnd), (Str.ofString "many", .int (n : Int) tz), (Str.ofString "well", .ref W)])
    (fun i c => IsWell c.o NB (k + (i : Int)) ∧ ∃ ls fs, IntsAre c.lv ls ∧ IntsAre c.fv fs ∧ fs.length = i ∧ (fs ++ ls).Perm places) ⟨o, placesV.toList, c1, [], 0⟩ rfl hr ?_ ?_ F₁ (news_sub N₁ (fun p hp => .tail _ hp)) ?_ ?_ rfl rfl ?_ ?_
  · exact small_one (by omega) (by omega) (by omega) (by omega)
  · exact rangeSize_nat _ _
  · kst_all
  · exact ⟨by simpa using hw, places, [], by l_intsW, .nil, rfl, List.Perm.refl _⟩
  · rintro i ⟨o', lv, ln, fv, fn⟩ h tk u I oI t hi ⟨hw', ls, fs, hls, hfs, hlen, hperm⟩ F₂ N₂ off
    dsimp only at hw' hls hfs F₂ N₂ off
    dsimp only [Off1] at off
    clear N₁ F₁ hr
    have hpl : fs.length + ls.length = 12 := by simpa [places] using hperm.length_eq
    have hlv := hls.length
    have hfv := hfs.length
    (try k_fold)
    tb_start
    rename_i r _ o2 _ _ hr0 hr1 hw2 _ _ _ t2 _ _ hi2 _ F3 N3
    refine NEnd.intro ⟨o2, lv.eraseIdx r.toNat, ln + 1, fv ++ [.int (ls.getD r.toNat 0) t2], fn + 1⟩ F3 N3 ?_ ?_ ?_ ?_
    · intro p hp; exact hp
    · intro q hq
      rw [List.mem_singleton.mp hq]
      exact off
    · kst_all
    · refine ⟨?_, _, _, hi2, ints_snoc hfs _ _, by simp [hlen], perm_move hperm (by omega)⟩
      have e : k + ((i + 1 : Nat) : Int) = k + (i : Int) + 1 := by omega
      rw [e]
      exact hw2
  · rintro ⟨o', lv, ln, fv, fn⟩ h tk u ⟨hw', ls, fs, hls, hfs, hlen, hperm⟩ F₂ N₂
    dsimp only at hw' hls hfs F₂ N₂
    clear N₁ F₁ hr
    (try dsimp only)
    tb_start
    refine NRet.intro [(W, o'), (Fnd, listOf fv.toArray fn)] (by k_asm) (by k_asm) (fun p hp => ?_) (fun F₁ N₁ hkeep fresh => ?_)
    · simp only [List.mem_cons, List.not_mem_nil, or_false] at hp ⊢
      rcases hp with rfl | rfl <;> simp
    · refine hret Fnd o' fv fs fn _ _ hw' hfs hlen ⟨ls, hperm⟩ F₁ N₁ (fun b o e hb => hkeep b o e (by simpa using hb)) ?_
      rcases fresh _ (.tail _ (.head _)) with h5 | h5
      · exfalso
        have h6 : @Eq Nat Fnd W := by simpa using h5
        omega
      · exact h5
theorem goals_call {w : World} {mean : ExcName → Option Value} {mg mb : Str → Option Value} {dp un : Nat} {gd : Option (List Code)} {cn : Str} {cs : Scope} {a : Addr} {ccd : Value} {cl : List (Str × Addr)} {outer : List Env} {A₀ : Around} {base h₀ : Heap} {L : Addr} {m : Str → Option Value} {s : Shared} {Q E : Value → Shared → Prop}
   {W NB : Addr} {o : Obj} {k many : Int} {tz : Tok} {news : List (Addr × Obj)} {u : Obj → List (Addr × Obj)}
   (B : Below A₀ base outer h₀) (F : Fr h₀ L s.heap m) (X : (hd.heap_39 w.params).In h₀) (T : Top hd.view_39 (looseW hd.view_39 []) mean mg mb h₀) (hk : cs.kind = .function)
   (N : News h₀ L s.heap news) (U : UpdF W o news u) (hw : IsWell o NB k) (hnum : Nums h₀ NB) (hne : NB ≠ W) (h0 : 0 ≤ k) (h1 : k ≤ 900) (hz : 0 ≤ many) (hz2 : many ≤ 12)
   (hdp : dp + 2 < recursionLimit) (hun : un + 16 < cLine)
   (hret : ∀ (G : Addr) (o' : Obj) (vs : List Value) (gs : List Int) (nn : Nat) (h' : Heap) (tk' : Nat), IsWell o' NB (k + many) → IntsAre vs gs → (gs.length : Int) = many → (∃ ls, (gs ++ ls).Perm places) → Fr h₀ L h' m → News h₀ L h' ((G, listOf vs.toArray nn) :: u o') → Off1 G (u o') → Q (.ref G) { s with heap := h', toks := tk' }) :
   wpAny (model PySem.Challenge.rw_nm0001_01.row.prog w) (ktrTop dp un gd cn cs L a ccd cl outer) (call (.ref 34) [.ref W, .int many tz]) Q E s := by
  obtain ⟨n, rfl⟩ := Int.eq_ofNat_of_zero_le hz
  refine goals_ok ⟨B, F, X, T, hk⟩ (fun p hp => by rw [List.mem_singleton.mp hp]; exact N _ (updF_mem U)) hw (hnum.mono fun o e => F.keep _ o e) hne h0 h1 (by omega) hdp hun fun G o' vs gs nn h' tk' a b c d F' N' hk' hf => ?_
  refine hret G o' vs gs nn h' tk' a b (by rw [c]) d F' (fun p hp => ?_) (updF_off U N hf)
  rcases List.mem_cons.mp hp with rfl | hp
  · exact N' _ (.tail _ (.head _))
  · exact news_back U N (fun p hp => by rw [List.mem_singleton.mp hp]; exact N' _ (.head _)) hk' p hp
end Mine
end
section
open PySem PySem.W PySem.Calls PyProof.Rows PyProof.Rows.LCg
namespace Mine
local macro_rules | `(tactic| tb_start) => `(tactic| repeat' (first | (k_unfold; (try dsimp only)) | walk1 | (dsimp only; walk1) | fail "no step"))
local macro_rules | `(tactic| ktr_enter) => `(tactic| (refine' nm_callC ?ps ?k1 ?k2 ?k3 ?k4 ?k5 ?kA ?kF ?kK ?k6 ?k7 ?k8 ?k9 ?kB ?kD ?kP ?_ ?c2 ?c3 ?c4; (case kA => exact rfl); (case kF => exact rfl); (case kK => assumption); (case k1 => k_asm); (case k2 => k_asm); (case k3 => k_asm); (case k4 => k_asm); (case k5 => k_asm); (case k6 => k_is); (case k7 => k_is); (case k8 => ktr_room); (case k9 => exact BindsTo.of_eq rfl); (case kB => exact rfl); (case kD => decide +kernel); (case c2 => exact rfl); (case c3 => exact rfl); (case c4 => exact rfl)))
local macro_rules | `(tactic| walk_at "exec For Name Call cons nil") => `(tactic| (k_here; refine nm_for ?_ ?hs; (case hs => intro _; with_unfolding_all rfl)))
local macro_rules | `(tactic| walk_at "exec For Tuple Name cons nil") => `(tactic| (k_here; refine nm_for ?_ ?hs; (case hs => intro _; with_unfolding_all rfl)))
local macro_rules | `(tactic| walk_at "exec For Name Name cons nil") => `(tactic| (k_here; refine nm_for ?_ ?hs; (case hs => intro _; with_unfolding_all rfl)))
local macro_rules | `(tactic| walk_at "call ref") => `(tactic| (k_here; k_dflt (refine' draw_call ?B ?F ?X ?T ?hk ?N ?U ?hw ?hnum ?hne ?h0 ?h1 ?hz ?hz2 ?hdp ?hun ?_; (case B => k_asm); (case F => k_asm); (case X => k_asm); (case T => k_asm); (case hk => first | rfl | assumption); (case N => k_asm); (case U => k_updF); (case hw => assumption); (case hnum => assumption); (case hne => assumption); (case h0 => omega); (case h1 => omega); (case hz => omega); (case hz2 => omega); (case hdp => ktr_room); (case hun => ktr_units)); intro r' t' o' h' tk' hr0' hr1' hw' F' N'; (try dsimp only at N')))
local macro_rules | `(tactic| walk_at "call builtin:list.append") => `(tactic| (k_here; (with_reducible show wpAny _ _ (call (Value.builtin _) [Value.ref _, _]) _ _ _); k_dflt (refine' nm_append ?F ?N ?U ?z ?_; (case F => k_asm); (case N => k_asm); (case U => k_updF); (case z => first | omega | (simp only [List.length_append, List.length_cons, List.length_nil]; omega))); intro h' F' N'; (try dsimp only at N')))
local macro_rules | `(tactic| walk_at "call builtin:list.pop") => `(tactic| (k_here; (with_reducible show wpAny _ _ (call (Value.builtin _) [Value.ref _, Value.int _ _]) _ _ _); k_dflt (refine' nm_popInts ?F ?N ?U ?i ?h0 ?h1 ?z ?_; (case F => k_asm); (case N => k_asm); (case U => k_updF); (case i => assumption); (case h0 => omega); (case h1 => omega); (case z => omega)); intro h' t' F' N' hi'; (try dsimp only at N')))
local macro_rules | `(tactic| walk_at "eval ListComp") => `(tactic| (k_here; k_dflt (refine nm_comp (F₀ := by k_asm) (by with_unfolding_all rfl) (by decide) (by rfl) (by decide) (by rfl) ?_)))
local macro_rules | `(tactic| walk_at "call ref") => `(tactic| (k_here; k_dflt (refine' goals_call ?B ?F ?X ?T ?hk ?N ?U ?hw ?hnum ?hne ?h0 ?h1 ?hz ?hz2 ?hdp ?hun ?_; (case B => k_asm); (case F => k_asm); (case X => k_asm); (case T => k_asm); (case hk => first | rfl | assumption); (case N => k_asm); (case U => k_updF); (case hw => assumption); (case hnum => assumption); (case hne => assumption); (case h0 => omega); (case h1 => omega); (case hz => omega); (case hz2 => omega); (case hdp => ktr_room); (case hun => ktr_units)); intro G' o' vs' gs' nn' h' tk' hw' hi' hl' hp' F' N' off'; (try dsimp only at N'); (try dsimp only [Off1] at off')))
local macro_rules | `(tactic| walk_at "binaryOp Add ref ref") => `(tactic| (k_here; k_dflt (refine' nm_addT ?F ?N ?a ?b ?c ?d ?e ?_; (case F => k_asm); (case N => k_asm); (case a => exact Fr.tup (by k_asm) (by assumption)); (case b => exact News.isTup (by k_asm) (by k_mem)); (case c => exact List.cons_ne_nil _ _); (case d => exact List.cons_ne_nil _ _); (case e => exact Nat.le_of_ble_eq_true rfl)); intro D' h' F' N' l1; (try k_lt l1); (try k_sweep)))
local macro_rules | `(tactic| walk_at "subscriptTail BinOp") => `(tactic| (k_here; k_dflt (refine' nm_tupInt (ns := places ++ [9, 18]) ?a ?b ?c ?d ?e ?_ ?f; (case a => exact News.isTup (by k_asm) (by k_mem)); (case b => l_intsW); (case c => assumption); (case d => exact (by assumption)); (case e => exact Nat.le_of_ble_eq_true rfl); (case f => with_unfolding_all rfl)); intro t'))
/-- what the drawn pairs are -/
structure GoodPairs (ps : List (Int × Int)) : Prop where
  nodup : (ps.map (·.1)).Nodup
  goals : ∀ p ∈ ps, p.1 ∈ places
  origins : ∀ p ∈ ps, p.2 ∈ places ++ [9, 18]
  few : ps.length ≤ 12
theorem goals_good {gs : List Int} (h : ∃ ls, (gs ++ ls).Perm places) : gs.Nodup ∧ ∀ x ∈ gs, x ∈ places := by
  obtain ⟨ls, hp⟩ := h
  have hn : places.Nodup := by decide
  refine ⟨(List.nodup_append.mp ((hp.nodup_iff).mpr hn)).1, fun x hx => (hp.mem_iff).mp (List.mem_append.mpr (.inl hx))⟩
structure PS where
  o : Obj
  pv : List Value
  pn : Nat
  fv : List Value
  fn : Nat
  tl : List (Addr × Obj)
set_option maxHeartbeats 8000000 in
theorem pairs_ok {w : World} {mean : ExcName → Option Value} {mg mb : Str → Option Value} {dp un : Nat} {gd : Option (List Code)} {cn : Str} {cs : Scope} {a : Addr} {ccd : Value} {cl : List (Str × Addr)} {outer : List Env} {A₀ : Around} {base h₀ : Heap} {L : Addr} {m : Str → Option Value} {s : Shared} {Q E : Value → Shared → Prop}
   {W NB : Addr} {o : Obj} {k : Int}
   (C : Cx w mean mg mb cs outer A₀ base h₀ L m s) (N : News h₀ L s.heap [(W, o)]) (hw : IsWell o NB k) (hnum : Nums s.heap NB) (hne : NB ≠ W) (h0 : 0 ≤ k) (h1 : k ≤ 800)
   (hdp : dp + 3 < recursionLimit) (hun : un + 24 < cLine)
   (hret : ∀ (Pl : Addr) (o' : Obj) (k' : Int) (vs : List Value) (ps : List (Int × Int)) (nn : Nat) (tl : List (Addr × Obj)) (h' : Heap) (tk' : Nat), IsWell o' NB k' → 0 ≤ k' → k' ≤ k + 30 → PairsIn tl vs ps → GoodPairs ps → Fr h₀ L h' m → News h₀ L h' ((W, o') :: (Pl, listOf vs.toArray nn) :: tl) → (∀ b o, s.heap.get? b = some o → b ≠ W → h'.get? b = some o) → Q (.ref Pl) { s with heap := h', toks := tk' }) :
   wpAny (model PySem.Challenge.rw_nm0001_01.row.prog w) (ktrTop dp un gd cn cs L a ccd cl outer) (call (.ref 39) [.ref W]) Q E s := by
  w_top off
  have : (PySem.Challenge.rw_nm0001_01 = PySem.Challenge.rw_nm0001_01) ∧ (hd.heap_39 w.params = hd.heap_39 w.params) := by k_fill; exact ⟨rfl, rfl⟩
  clear this
  obtain ⟨B, F, X, T, hk⟩ := C
  k_dflt ktr_enter
  case ps => exact []
  case kP => intro _; rfl
  intro g' L' h' tk0 cells hkeep FG F' N' Y' lt' B' X' T'
  obtain ⟨oc, hE, d1⟩ := CellsAre.one Y'
  subst hE
  have lW : @LT.lt Nat _ W L' := lt' _ (.head _)
  simp only [List.cons_append, List.nil_append] at N'
  have hng := hnum.mono fun o e => hkeep NB o e (by simpa using hne)
  clear hkeep lt' FG F X T B N
  have hT20 : IsTup g' 20 placesV := ⟨_, X' 20 _ (by k_is), rfl, _, rfl⟩
  (try dsimp only); (try k_fold)
  tb_start
  · rename_i r1 _ o1 _ _ _ _ _ r2 _ o2 _ tk2 hr20 hr21 _ D2 _ l2 _ _ _ _ G ow vs gs nn _ _ hwg hgs hlen hperm offG _ _ hT Pool pc _ lp Fnd _ lf D3 _ lD _ _ _ F₁ N₁
    refine NFor.listN (vs := vs) (fun c : PS => (Fnd, listOf c.fv.toArray c.fn) :: (Pool, listOf c.pv.toArray c.pn) :: (G, listOf vs.toArray nn) :: (L' + 1, oc) :: (W, c.o) :: c.tl) (fun _ => [(Str.ofString "pool", .ref Pool), (Str.ofString "found", .ref Fnd)])
      (fun i c => IsWell c.o NB (k + 1 + 1 + (1 + r2) + (i : Int)) ∧ OwnOff c.tl [Fnd, Pool, W] ∧ ∃ pool ps, IntsAre c.pv pool ∧ PairsIn c.tl c.fv ps ∧ ps.map (·.1) = gs.take i ∧ (ps.map (·.2) ++ pool).Perm gs) ⟨ow, vs, pc, [], 0, []⟩ rfl ?_ F₁ (news_sub N₁ (by kst_inAny)) ?_ ?_ rfl rfl ?_ ?_
    · intro c h m _ N
      exact ⟨_, (N _ (.tail _ (.tail _ (.head _)))).1, rfl, _, rfl⟩
    · kst_all
    · exact ⟨by simpa using hwg, ownOff_nil, gs, [], hgs, .nil, rfl, List.Perm.refl _⟩
    · rintro i v ⟨ob, pv, pn, fv, fn, tl⟩ h tk u I oI hv ⟨hwo, hto, pool, ps, hpool, hpi, hpf, hpp⟩ F₂ N₂ off
      dsimp only at hwo hto hpool hpi F₂ N₂ off
      dsimp only [Off1] at off
      obtain ⟨x, t, rfl, hx⟩ := hgs.at i v hv
      have hi' : i < gs.length := (List.getElem?_eq_some_iff.mp hx).1
      have hpl : ps.length + pool.length = gs.length := by simpa using hpp.length_eq
      have hpl2 : ps.length = i := by
        have := congrArg List.length hpf
        rw [List.length_map, List.length_take] at this
        omega
      have hpv := hpool.length
      have hfv := hpi.length
      clear F₁ N₁
      (try k_fold)
      tb_start
      rename_i r5 _ o5 _ _ hr50 hr51 hw5 _ t5 hp5 T5 _ _ _ l5 _ F5 N5
      refine NEnd.intro ⟨o5, pv.eraseIdx r5.toNat, pn + 1, fv ++ [.ref T5], fn + 1, (T5, tup2 x t (pool.getD r5.toNat 0) t5) :: tl⟩ F5 N5 ?_ ?_ ?_ ?_
      · dsimp only
        kst_inAny
      · intro q hq
        rw [List.mem_singleton.mp hq]
        exact ⟨off.1, off.2.1, off.2.2.1, off.2.2.2.1, off.2.2.2.2.1, neN (by omega), off.2.2.2.2.2⟩
      · kst_all
      · refine ⟨?_, ownOff_cons ?_ hto, pool.eraseIdx r5.toNat, ps ++ [(x, pool.getD r5.toNat 0)], hp5, (hpi.mono fun p hp => .tail _ hp).snoc (.head _), ?_, ?_⟩
        · have e : k + 1 + 1 + (1 + r2) + ((i + 1 : Nat) : Int) = k + 1 + 1 + (1 + r2) + (i : Int) + 1 := by omega
          rw [e]
          exact hw5
        · intro b hb
          simp only [List.mem_cons, List.not_mem_nil, or_false] at hb
          rcases hb with rfl | rfl | rfl <;> exact neN (by omega)
        · rw [List.map_append, hpf, List.take_add_one, hx]
          rfl
        · rw [List.map_append]
          exact perm_move hpp (by omega)
    · rintro ⟨ob, pv, pn, fv, fn, tl⟩ h tk u ⟨hwo, hto, pool, ps, hpool, hpi, hpf, hpp⟩ F₂ N₂
      dsimp only at hwo hto hpool hpi F₂ N₂
      clear F₁ N₁
      (try dsimp only)
      tb_start
      refine NRet.intro ((W, ob) :: (Fnd, listOf fv.toArray fn) :: tl) (by k_asm) N₂ (by kst_inAny) (fun F₃ N₃ hkeep fresh => ?_)
      have hlen : ps.map (·.1) = gs := by
        rw [hpf, hgs.length, List.take_length]
      have hpl : ps.length = gs.length := by rw [← hlen, List.length_map]
      obtain ⟨hnd, hin⟩ := goals_good hperm
      refine hret Fnd ob _ fv ps _ tl _ _ hwo (by omega) (by have := hgs.length; omega) hpi ⟨by rw [hlen]; exact hnd, fun p hp => hin _ (by rw [← hlen]; exact List.mem_map_of_mem hp), fun p hp => ?_, by omega⟩ F₃ N₃ (fun b o e hb => hkeep b o e (by simpa using hb))
      exact List.mem_append.mpr (.inl (hin _ ((hpp.mem_iff).mp (List.mem_append.mpr (.inl (List.mem_map_of_mem hp))))))
  · rename_i r1 _ o1 _ _ _ _ _ r2 _ o2 _ tk2 hr20 hr21 _ D2 _ l2 _ _ _ _ G ow vs gs nn _ _ hwg hgs hlen hperm offG _ F₁ N₁ hT
    refine CompSrc.ledger (news := [(G, listOf vs.toArray nn), (L' + 1, oc), (W, ow)]) rfl (by k_asm) (news_sub N₁ (by kst_inAny)) (.head _) ?_ ?_
    · have := hgs.length
      rw [List.size_toArray, sizeLine_eq]
      omega
    · intro g₂
      refine compRest_ind (n := vs.toArray.size) (fun i ys nw => ∃ ob tl ps, nw = (G, listOf vs.toArray nn) :: (L' + 1, oc) :: (W, ob) :: tl ∧ IsWell ob NB (k + 1 + 1 + (1 + r2) + (i : Int)) ∧ OwnOff tl [W] ∧ PairsIn tl ys ps ∧ ps.map (·.1) = gs.take i ∧ (∀ p ∈ ps, p.2 ∈ places ++ [9, 18]))
        ?_ ?_ _ 0 [] _ (Nat.zero_add _) ⟨ow, [], [], rfl, by simpa using hwg, ownOff_nil, .nil, rfl, by simp⟩
      · rintro i ys nw hi ⟨ob, tl, ps, rfl, hwo, hto, hpi, hpf, hps⟩ v I oI C oC D m₂ h tk E' hv hC hm F₂ N₂ off ne
        have hv' : vs[i]? = some v := by simpa using hv
        obtain ⟨x, t, rfl, hx⟩ := hgs.at i v hv'
        have hi' : i < gs.length := by rw [← hgs.length]; simpa using hi
        dsimp only [Off3] at off
        clear F₁ N₁
        (try k_fold)
        tb_start
        rename_i _ _ _ D5 _ l5 D4 _ l4 _ _ _ r5 _ o5 _ _ hr50 hr51 hw5 t5 T5 _ F5 N5 l6
        refine CompEnd.intro F5 N5 ((G, listOf vs.toArray nn) :: (L' + 1, oc) :: (W, o5) :: (T5, tup2 x t ((places ++ [9, 18]).getD r5.toNat 0) t5) :: tl) ?_ ?_ ?_ ?_
        · kst_inAny
        · exact ⟨off.1, off.2.1, off.2.2.1, ⟨by omega, by omega, by omega⟩, off.2.2.2⟩
        · exact .inr ⟨_, .head _, rfl, _, rfl⟩
        · refine ⟨o5, _, ps ++ [(x, (places ++ [9, 18]).getD r5.toNat 0)], rfl, ?_, ownOff_cons ?_ hto, (hpi.mono fun p hp => .tail _ hp).snoc (.head _), ?_, ?_⟩
          · have e : k + 1 + 1 + (1 + r2) + ((i + 1 : Nat) : Int) = k + 1 + 1 + (1 + r2) + (i : Int) + 1 := by omega
            rw [e]
            exact hw5
          · intro b hb
            rw [List.mem_singleton.mp hb]
            exact neN (by omega)
          · rw [List.map_append, hpf, List.take_add_one, hx]
            rfl
          · intro p hp
            rcases List.mem_append.mp hp with hp | hp
            · exact hps p hp
            · rw [List.mem_singleton.mp hp]
              show (places ++ [9, 18]).getD r5.toNat 0 ∈ places ++ [9, 18]
              exact kso_getD (by show r5.toNat < 14; omega)
      · rintro ys nw ⟨ob, tl, ps, rfl, hwo, hto, hpi, hpf, hps⟩ D h tk F₂ N₂ off
        dsimp only
        refine NRet.intro ((W, ob) :: (D, lst ys) :: tl) F₂ N₂ (by kst_inAny) (fun F₃ N₃ hkeep fresh => ?_)
        have hlen : ps.map (·.1) = gs := by
          rw [hpf, List.size_toArray, hgs.length, List.take_length]
        obtain ⟨hnd, hin⟩ := goals_good hperm
        refine hret D ob _ ys ps _ tl _ _ hwo (by rw [List.size_toArray]; omega) (by rw [List.size_toArray, hgs.length]; omega) hpi ⟨by rw [hlen]; exact hnd, fun p hp => hin _ (by rw [← hlen]; exact List.mem_map_of_mem hp), hps, ?_⟩ F₃ N₃ (fun b o e hb => hkeep b o e (by simpa using hb))
        have : ps.length = gs.length := by rw [← hlen, List.length_map]
        omega
end Mine
end
section
open PySem PySem.W PySem.Calls PyProof.Rows PyProof.Rows.LCg
namespace Mine
local macro_rules | `(tactic| tb_start) => `(tactic| repeat' (first | (k_unfold; (try dsimp only)) | walk1 | (dsimp only; walk1) | fail "no step"))
local macro_rules | `(tactic| ktr_enter) => `(tactic| (refine' nm_call ?ps ?k1 ?k2 ?k3 ?k4 ?k5 ?kA ?kF ?kK ?k6 ?k7 ?k8 ?k9 ?kB ?kP ?_ ?c2 ?c3 ?c4 ?c5; (case kA => exact rfl); (case kF => exact rfl); (case kK => assumption); (case k1 => k_asm); (case k2 => k_asm); (case k3 => k_asm); (case k4 => k_asm); (case k5 => k_asm); (case k6 => k_is); (case k7 => k_is); (case k8 => ktr_room); (case k9 => exact BindsTo.of_eq rfl); (case c5 => decide); (case kB => exact locs rfl); (case c2 => exact rfl); (case c3 => exact rfl); (case c4 => exact rfl)))
local macro_rules | `(tactic| walk_at "exec For Tuple Name cons nil") => `(tactic| (k_here; refine nm_for ?_ ?hs; (case hs => intro _; with_unfolding_all rfl)))
local macro_rules | `(tactic| walk_at "call type:list") => `(tactic| (k_here; (with_reducible show wpAny _ _ (call (Value.type _) [Value.ref _]) _ _ _); (rename IsRange _ _ _ _ _ _ _ _ => rgX); (with_unfolding_all refine' kll_range (n := 32) ?k0 ?k1 ?k2 ?k3 ?k4 ?k5 ?k6 ?_; (case k0 => rfl); (case k1 => k_asm); (case k2 => k_asm); (case k3 => first | exact rgX | assumption); (case k4 => exact small_one (by decide) (by decide) (by decide) (by decide)); (case k5 => rfl); (case k6 => decide)); intro D' vs' c' h' tk' F' N' l1 hI'))
local macro_rules | `(tactic| walk_at "setItem ref int") => `(tactic| (k_here; k_dflt (refine' nm_setInts ?F ?N ?U ?i ?h0 ?h1 ?z ?_; (case F => k_asm); (case N => k_asm); (case U => k_updF); (case i => assumption); (case h0 => omega); (case h1 => omega); (case z => omega)); intro h' F' N' hi'; (try dsimp only at N')))
local macro_rules | `(tactic| walk_at "subscriptTail Name Name ref int") => `(tactic| (k_here; k_dflt (refine' nm_subInts ?a ?i ?h0 ?h1 ?z ?_ ?f; (case a => exact News.isList (by k_asm) (by k_mem)); (case i => assumption); (case h0 => omega); (case h1 => omega); (case z => omega); (case f => with_unfolding_all rfl)); intro t'))
def cells0 : List Int := rangeKs 100 32
def atOnce (ps : List (Int × Int)) (cells : List Int) : List Int := ps.foldl (fun cs p => cs.set p.1.toNat (100 + p.2)) cells
def inTurn (ps : List (Int × Int)) (cells : List Int) : List Int := ps.foldl (fun cs p => cs.set p.1.toNat (cs.getD p.2.toNat 0)) cells
theorem atOnce_len (ps : List (Int × Int)) : ∀ cells, (atOnce ps cells).length = cells.length := by
  induction ps with
  | nil => intro c; rfl
  | cons p r ih => intro c; show (atOnce r (c.set p.1.toNat (100 + p.2))).length = _; rw [ih, List.length_set]
theorem inTurn_len (ps : List (Int × Int)) : ∀ cells, (inTurn ps cells).length = cells.length := by
  induction ps with
  | nil => intro c; rfl
  | cons p r ih => intro c; show (inTurn r (c.set p.1.toNat (c.getD p.2.toNat 0))).length = _; rw [ih, List.length_set]
theorem foldl_take {α β : Type} (f : α → β → α) (z : α) {ps : List β} {i : Nat} {p : β} (h : ps[i]? = some p) : (ps.take (i + 1)).foldl f z = f ((ps.take i).foldl f z) p := by
  rw [List.take_add_one, h, List.foldl_append]; rfl
structure CS where
  cv : List Value
  cn : Nat
set_option maxHeartbeats 8000000 in
theorem once_ok {w : World} {mean : ExcName → Option Value} {mg mb : Str → Option Value} {dp un : Nat} {gd : Option (List Code)} {cn : Str} {cs : Scope} {a : Addr} {ccd : Value} {cl : List (Str × Addr)} {outer : List Env} {A₀ : Around} {base h₀ : Heap} {L : Addr} {m : Str → Option Value} {s : Shared} {Q E : Value → Shared → Prop}
   {l : Addr} {vs : List Value} {ps : List (Int × Int)}
   (C : Cx w mean mg mb cs outer A₀ base h₀ L m s) (hl : s.heap.IsList l vs.toArray) (hp : PairsAt s.heap vs ps) (hin : ∀ p ∈ ps, 0 ≤ p.1 ∧ p.1 < 32)
   (hdp : dp + 1 < recursionLimit) (hun : un + 8 < cLine)
   (hret : ∀ (D : Addr) (us : List Value) (c : Nat) (h' : Heap) (tk' : Nat), IntsAre us (atOnce ps cells0) → Fr h₀ L h' m → News h₀ L h' [(D, listOf us.toArray c)] → (∀ b o, s.heap.get? b = some o → h'.get? b = some o) → s.heap.get? D = none → Q (.ref D) { s with heap := h', toks := tk' }) :
   wpAny (model PySem.Challenge.rw_nm0001_01.row.prog w) (ktrTop dp un gd cn cs L a ccd cl outer) (call (.ref 46) [.ref l]) Q E s := by
  w_top off
  have : (PySem.Challenge.rw_nm0001_01 = PySem.Challenge.rw_nm0001_01) ∧ (hd.heap_39 w.params = hd.heap_39 w.params) := by k_fill; exact ⟨rfl, rfl⟩
  clear this
  obtain ⟨B, F, X, T, hk⟩ := C
  have N : News h₀ L s.heap [] := fun _ h => nomatch h
  k_dflt ktr_enter
  case ps => exact [(Str.ofString "pairs", .ref l)]
  case kP => rfl
  intro g' L' h' hkeep FG F' N' lt' B' X' T'
  have hlg := hl.at fun o e => hkeep l o e (by simp)
  have hpg := hp.mono (tuple_keep fun b o e => hkeep b o e (by simp))
  clear hkeep lt' FG F X T B N
  (try dsimp only); (try k_fold)
  tb_start
  rename_i D us c _ _ l1 hus _ F₁ N₁
  refine NFor.listP (vs := vs) (fun c : CS => [(D, listOf c.cv.toArray c.cn)]) (fun _ => [(Str.ofString "cells", .ref D)]) (fun i c => IntsAre c.cv (atOnce (ps.take i) cells0)) (fun i x y => ∃ a b ta tb, x = .int a ta ∧ y = .int b tb ∧ ps[i]? = some (a, b)) ⟨us, c⟩ rfl ?_ ?_ F₁ N₁ ?_ ?_ rfl rfl rfl ?_ ?_
  · intro _ h _ F _
    exact hlg.at fun o e => F.keep _ o e
  · intro i v hv
    obtain ⟨t, a, b, ta, tb, e1, e2, e3⟩ := hpg.get hv
    exact ⟨t, _, _, e1, ⟨a, b, ta, tb, rfl, rfl, e2⟩, fun _ h _ F _ => tuple_keep (fun b o e => F.keep b o e) _ _ e3⟩
  · kst_all
  · exact hus
  · rintro i x y ⟨cv, c'⟩ h tk u I oI hi ⟨a, b, ta, tb, rfl, rfl, hab⟩ hcv F₂ N₂ off
    dsimp only at hcv F₂ N₂ off
    dsimp only [Off1] at off
    have hlen : (atOnce (ps.take i) cells0).length = 32 := by rw [atOnce_len]; rfl
    obtain ⟨hb0, hb1⟩ := hin _ (List.mem_of_getElem? hab)
    dsimp only at hb0 hb1
    clear F₁ N₁
    (try k_fold)
    tb_start
    rename_i F5 N5 hi2
    refine NEnd.same ⟨_, _⟩ F5 N5 ?_ ?_ ?_
    · intro q hq
      rw [List.mem_singleton.mp hq]
      exact off
    · kst_all
    · show IntsAre _ (atOnce (ps.take (i + 1)) cells0)
      unfold atOnce
      rw [foldl_take _ _ hab]
      exact hi2
  · rintro ⟨cv, c'⟩ h tk u hcv F₂ N₂
    dsimp only at hcv F₂ N₂
    rw [hpg.length, List.take_length] at hcv
    clear F₁ N₁
    (try dsimp only)
    tb_start
    refine NRet.intro [(D, listOf cv.toArray c')] (by k_asm) N₂ (fun p hp => hp) (fun F₃ N₃ hkeep fresh => ?_)
    exact hret D cv c' _ _ hcv F₃ N₃ (fun b o e => hkeep b o e (by simp)) ((fresh _ (.head _)).resolve_left (by simp))
set_option maxHeartbeats 8000000 in
theorem turn_ok {w : World} {mean : ExcName → Option Value} {mg mb : Str → Option Value} {dp un : Nat} {gd : Option (List Code)} {cn : Str} {cs : Scope} {a : Addr} {ccd : Value} {cl : List (Str × Addr)} {outer : List Env} {A₀ : Around} {base h₀ : Heap} {L : Addr} {m : Str → Option Value} {s : Shared} {Q E : Value → Shared → Prop}
   {l : Addr} {vs : List Value} {ps : List (Int × Int)}
   (C : Cx w mean mg mb cs outer A₀ base h₀ L m s) (hl : s.heap.IsList l vs.toArray) (hp : PairsAt s.heap vs ps) (hin : ∀ p ∈ ps, (0 ≤ p.1 ∧ p.1 < 32) ∧ (0 ≤ p.2 ∧ p.2 < 32))
   (hdp : dp + 1 < recursionLimit) (hun : un + 8 < cLine)
   (hret : ∀ (D : Addr) (us : List Value) (c : Nat) (h' : Heap) (tk' : Nat), IntsAre us (inTurn ps cells0) → Fr h₀ L h' m → News h₀ L h' [(D, listOf us.toArray c)] → (∀ b o, s.heap.get? b = some o → h'.get? b = some o) → s.heap.get? D = none → Q (.ref D) { s with heap := h', toks := tk' }) :
   wpAny (model PySem.Challenge.rw_nm0001_01.row.prog w) (ktrTop dp un gd cn cs L a ccd cl outer) (call (.ref 53) [.ref l]) Q E s := by
  w_top off
  have : (PySem.Challenge.rw_nm0001_01 = PySem.Challenge.rw_nm0001_01) ∧ (hd.heap_39 w.params = hd.heap_39 w.params) := by k_fill; exact ⟨rfl, rfl⟩
  clear this
  obtain ⟨B, F, X, T, hk⟩ := C
  have N : News h₀ L s.heap [] := fun _ h => nomatch h
  k_dflt ktr_enter
  case ps => exact [(Str.ofString "rows", .ref l)]
  case kP => rfl
  intro g' L' h' hkeep FG F' N' lt' B' X' T'
  have hlg := hl.at fun o e => hkeep l o e (by simp)
  have hpg := hp.mono (tuple_keep fun b o e => hkeep b o e (by simp))
  clear hkeep lt' FG F X T B N
  (try dsimp only); (try k_fold)
  tb_start
  rename_i D us c _ _ l1 hus _ F₁ N₁
  refine NFor.listP (vs := vs) (fun c : CS => [(D, listOf c.cv.toArray c.cn)]) (fun _ => [(Str.ofString "cells", .ref D)]) (fun i c => IntsAre c.cv (inTurn (ps.take i) cells0)) (fun i x y => ∃ a b ta tb, x = .int a ta ∧ y = .int b tb ∧ ps[i]? = some (a, b)) ⟨us, c⟩ rfl ?_ ?_ F₁ N₁ ?_ ?_ rfl rfl rfl ?_ ?_
  · intro _ h _ F _
    exact hlg.at fun o e => F.keep _ o e
  · intro i v hv
    obtain ⟨t, a, b, ta, tb, e1, e2, e3⟩ := hpg.get hv
    exact ⟨t, _, _, e1, ⟨a, b, ta, tb, rfl, rfl, e2⟩, fun _ h _ F _ => tuple_keep (fun b o e => F.keep b o e) _ _ e3⟩
  · kst_all
  · exact hus
  · rintro i x y ⟨cv, c'⟩ h tk u I oI hi ⟨a, b, ta, tb, rfl, rfl, hab⟩ hcv F₂ N₂ off
    dsimp only at hcv F₂ N₂ off
    dsimp only [Off1] at off
    have hlen : (inTurn (ps.take i) cells0).length = 32 := by rw [inTurn_len]; rfl
    obtain ⟨⟨hb0, hb1⟩, hb2, hb3⟩ := hin _ (List.mem_of_getElem? hab)
    dsimp only at hb0 hb1 hb2 hb3
    clear F₁ N₁
    (try k_fold)
    tb_start
    rename_i F5 N5 hi2
    refine NEnd.same ⟨_, _⟩ F5 N5 ?_ ?_ ?_
    · intro q hq
      rw [List.mem_singleton.mp hq]
      exact off
    · kst_all
    · show IntsAre _ (inTurn (ps.take (i + 1)) cells0)
      unfold inTurn
      rw [foldl_take _ _ hab]
      exact hi2
  · rintro ⟨cv, c'⟩ h tk u hcv F₂ N₂
    dsimp only at hcv F₂ N₂
    rw [hpg.length, List.take_length] at hcv
    clear F₁ N₁
    (try dsimp only)
    tb_start
    refine NRet.intro [(D, listOf cv.toArray c')] (by k_asm) N₂ (fun p hp => hp) (fun F₃ N₃ hkeep fresh => ?_)
    exact hret D cv c' _ _ hcv F₃ N₃ (fun b o e => hkeep b o e (by simp)) ((fresh _ (.head _)).resolve_left (by simp))
end Mine
end
section
open PySem PySem.W PySem.Calls PyProof.Rows PyProof.Rows.LCg
namespace Mine
/-- a dict of ints by ints -/
def IntD (prog : Program) (w : World) (o : Obj) (c : List (Int × Int)) : Prop := ∃ kvs, o.IsDictOf (PySem.intKind prog w) kvs ∧ PyProof.V.FlatPairs PyData.int kvs (kdfD c)
section
variable {prog : Program} {w : World} {A : Around} {E : Value → Shared → Prop} {s : Shared} {h₀ h : Heap} {L d : Addr} {m : Str → Option Value} {news : List (Addr × Obj)} {u : Obj → List (Addr × Obj)} {o : Obj} {c : List (Int × Int)} {k e : Int} {tk te : Tok}
theorem IntD.tab (D : IntD prog w o c) (N : News h₀ L h news) (hm : (d, o) ∈ news) (lo : (d == sysModules) = false) : IntTab prog w h d (kdfD c) :=
  let ⟨_, a, b⟩ := D; TabAt.ofNews N hm lo a b
theorem nm_dset {Q : Unit → Shared → Prop} (F : Fr h₀ L s.heap m) (N : News h₀ L s.heap news) (U : UpdF d o news u) (D : IntD prog w o c) (hc : c.length ≤ 1000)
    (h : ∀ h' o', Fr h₀ L h' m → News h₀ L h' (u o') → IntD prog w o' (kdfPut c k e) → Q () { s with heap := h', toks := s.toks + 1 }) : wpAny (model prog w) A (setItem (.ref d) (.int k tk) (.int e te)) Q E s :=
  let ⟨_, a, b⟩ := D; kdf_setItem F N U a b (by omega) fun h' o' kvs' F' N' a' b' => h h' o' F' N' ⟨kvs', a', b'⟩
theorem nm_dpop {Q : Value → Shared → Prop} (F : Fr h₀ L s.heap m) (N : News h₀ L s.heap news) (U : UpdF d o news u) (D : IntD prog w o c) (hk : kdfHas c k = true) (hc : c.length ≤ 1000)
    (h : ∀ h' o' t, Fr h₀ L h' m → News h₀ L h' (u o') → IntD prog w o' (kdyDel c k) → Q (.int (kdfLook c k 0) t) { s with heap := h', toks := s.toks + 1 }) : wpAny (model prog w) A (call (.builtin "dict.pop") [.ref d, .int k tk]) Q E s :=
  let ⟨_, a, b⟩ := D; kdy_pop (more := []) (.inl rfl) (by unfold argsOk; kernel_rfl) F N U a b hk (by omega) fun h' o' kvs' t F' N' a' b' => h h' o' t F' N' ⟨kvs', a', b'⟩
theorem nm_dtruth {Q : Bool → Shared → Prop} (T : IntTab prog w s.heap d (kdfD c)) (hc : c.length ≤ 1000) (h : Q (!c.isEmpty) { s with toks := s.toks + 1 + 1 }) : wpAny (model prog w) A (truthy (.ref d)) Q E s :=
  truthy_tab T (by rw [kdfD_length]; omega) (by
    have e : (kdfD c).isEmpty = c.isEmpty := by cases c <;> rfl
    rw [e]; exact h)
theorem nm_new {env : Env} {pos : Pos} {Q : Value → Shared → Prop} (F : Fr h₀ L s.heap m) (N : News h₀ L s.heap news) (hbig : h₀.NoLimit)
    (k : ∀ d h' o, Fr h₀ L h' m → News h₀ L h' ((d, o) :: news) → (∀ p ∈ news, p.1 < d) → (d == sysModules) = false → IntD prog w o [] → Q (.ref d) { s with heap := h' }) : wpAny (model prog w) A (eval (.Dict [] [] pos) env) Q E s :=
  newDict_K F N hbig fun d h' o F' N' lt lo _ _ a b => k d h' o F' N' lt lo ⟨_, a, b⟩
theorem nm_listSort {D : Addr} {us : List Value} {ns : List Int} {n : Nat} {Q : Value → Shared → Prop} (F : Fr h₀ L s.heap m) (N : News h₀ L s.heap ((D, listOf us.toArray n) :: news)) (hD : ∀ q ∈ news, q.1 < D) (hi : IntsAre us ns) (h64 : us.length < 64)
    (h : ∀ h' us' ns' n', Fr h₀ L h' m → News h₀ L h' ((D, listOf us'.toArray n') :: news) → IntsAre us' ns' → ns'.Perm ns → Q .none { s with heap := h' }) : wpAny (model prog w) A (call (.builtin "list.sort") [.ref D]) Q E s := by
  have z := N _ (.head _)
  have ho : s.heap.get? D = some (seqObj "list" us.toArray n) := z.1
  refine wpAny_call_entry PyProof.Rows.slot_list_sort ⟨_, z.1, rfl⟩ PyProof.Rows.entry_list_sort (list_sort_tree (n := n) (vs := us) ho hi h64 fun out ns' hI hp hP => ⟨.none, rfl, ?_⟩) (PyProof.Rows.args_list_sort _)
  have hlt : D < s.heap.objs.size := Heap.lt_size ho
  have e1 := get?_update_seq ho fun _ => (#[] : Array Value)
  have e2 := Heap.get?_push_of_some (seqObj "tuple" us.toArray 0) e1
  have e3 := Heap.get?_push_of_some (seqObj "list" #[] 0) e2
  have e4 := get?_update_seq e3 fun _ => out
  have F1 : Fr h₀ L (s.heap.update D (Obj.mapSeq fun _ => (#[] : Array Value))) m := F.change (Heap.SameBut.update ..) z.2.1 z.2.2
  have F4 : Fr h₀ L (sortedHeap s.heap D us out) m :=
    ((F1.push (seqObj "tuple" us.toArray 0)).push (seqObj "list" #[] 0)).change (Heap.SameBut.update ..) z.2.1 z.2.2
  have NN : News h₀ L (sortedHeap s.heap D us out) ((D, listOf out.toList.toArray (if (out.size == (#[] : Array Value).size) = true then (if ((#[] : Array Value).size == us.toArray.size) = true then n else n + 1) else (if ((#[] : Array Value).size == us.toArray.size) = true then n else n + 1) + 1)) :: news) := by
    intro p hp
    rcases List.mem_cons.mp hp with rfl | hp
    · rw [Array.toArray_toList]
      exact ⟨e4, z.2⟩
    · have y := N p (.tail _ hp)
      refine ⟨?_, y.2⟩
      have hne : p.1 ≠ D := Nat.ne_of_lt (hD p hp)
      exact (Heap.SameBut.update ..).extBut _ _ hne (Heap.get?_push_of_some _ (Heap.get?_push_of_some _ ((Heap.SameBut.update ..).extBut _ _ hne y.1)))
  exact h _ out.toList ns' _ F4 NN hI hp
theorem nm_sortedD {Q : Value → Shared → Prop} (hh : A.handled = none) (F : Fr h₀ L s.heap m) (N : News h₀ L s.heap news) (T : IntTab prog w s.heap d (kdfD c)) (hc : c.length < 64)
    (h : ∀ (B : Addr) h' us ns n tk, Fr h₀ L h' m → News h₀ L h' ((B, listOf us.toArray n) :: news) → (∀ q ∈ news, q.1 < B) → IntsAre us ns → ns.Perm (c.map (·.1)) → Q (.ref B) { s with heap := h', toks := tk }) :
    wpAny (model prog w) A (call (.builtin "sorted") [.ref d]) Q E s := by
  obtain ⟨lo, kvs, hD, hf⟩ := T
  obtain ⟨ep, hat⟩ := hD.dictAt
  have hlen : kvs.length = c.length := by rw [← hf.length, kdfD_length]
  refine kdu_sorted (kdl_dict (knd := PySem.intKind prog w) (kvs := kvs) (ep := ep) lo) hh F N hat (kdl_size (by rw [hlen]; omega)) fun B h' tk vs F' N' l1 hl hv => ?_
  have hi : IntsAre vs (c.map (·.1)) := kdy_ints (by rw [hl, hlen, List.length_map]) fun j v hvj => by
    obtain ⟨k, x, hx, hk⟩ := hv j v hvj
    obtain ⟨dv, hd, _⟩ := hf.at hx
    have hd' : (c[j]?).map (fun p => (PyData.int p.1, PyData.int p.2)) = some (PyData.int k, dv) := by rw [← List.getElem?_map]; exact hd
    cases hcj : c[j]? with
    | none => rw [hcj] at hd'; cases hd'
    | some p =>
      rw [hcj] at hd'
      have e1 : PyData.int p.1 = PyData.int k := congrArg Prod.fst (Option.some.inj hd')
      injection e1 with e1
      obtain ⟨t, rfl⟩ := Value.isInt_shape hk
      exact ⟨p.1, by rw [List.getElem?_map, hcj]; rfl, t, by rw [e1]⟩
  exact nm_listSort F' N' l1 hi (by rw [hl, hlen]; exact hc) fun h₂ us ns n F₂ N₂ hi₂ hp₂ => h B h₂ us ns n tk F₂ N₂ l1 hi₂ hp₂
theorem dkey {kvs : List (Int × Value)} {k : Int} {x v : Value} {j : Nat} (hf : PyProof.V.FlatPairs PyData.int kvs (kdfD c)) (hx : kvs[j]? = some (k, x)) (hk : (PySem.intKind prog w).is k v = true) : ∃ p t, c[j]? = some p ∧ v = .int p.1 t := by
  obtain ⟨dv, hd, _⟩ := hf.at hx
  have hd' : (c[j]?).map (fun p => (PyData.int p.1, PyData.int p.2)) = some (PyData.int k, dv) := by rw [← List.getElem?_map]; exact hd
  cases hcj : c[j]? with
  | none => rw [hcj] at hd'; cases hd'
  | some p =>
    rw [hcj] at hd'
    have e1 : PyData.int p.1 = PyData.int k := congrArg Prod.fst (Option.some.inj hd')
    injection e1 with e1
    obtain ⟨t, rfl⟩ := Value.isInt_shape hk
    exact ⟨p, t, rfl, by rw [e1]⟩
theorem nm_minD {Q : Value → Shared → Prop} (hh : A.handled = none) (F : Fr h₀ L s.heap m) (N : News h₀ L s.heap news) (T : IntTab prog w s.heap d (kdfD c)) (hne : 0 < c.length)
    (h : ∀ h' M (t : Tok) tk, Fr h₀ L h' m → News h₀ L h' news → M ∈ c.map (·.1) → (∀ a, a ∈ c.map (·.1) → M ≤ a) → Q (.int M t) { s with heap := h', toks := tk }) :
    wpAny (model prog w) A (call (.builtin "min") [.ref d]) Q E s := by
  obtain ⟨lo, kvs, hD, hf⟩ := T
  obtain ⟨ep, hat⟩ := hD.dictAt
  have hlen : kvs.length = c.length := by rw [← hf.length, kdfD_length]
  obtain ⟨o, es, ho, _⟩ := id hat
  have hlt : d < s.heap.objs.size := Heap.lt_size ho
  have val : ∀ i v, (∃ k x, kvs[i]? = some (k, x) ∧ (PySem.intKind prog w).is k v = true) → ∃ t, v = .int ((c.map (·.1)).getD i 0) t := by
    rintro i v ⟨k, x, hx, hk⟩
    obtain ⟨p, t, hp, rfl⟩ := dkey hf hx hk
    exact ⟨t, by rw [List.getD_eq_getElem?_getD, List.getElem?_map, hp]; rfl⟩
  refine call_min_walk (wpAny_pyIter_dict lo hat ?_)
  refine ⟨_, _, _, _, _, _, _, rfl, Walks.dictKeys (knd := PySem.intKind prog w) (A := A.in1) hh s.heap.objs.size d (Nat.ne_of_lt hlt) kvs ep, ⟨⟨_, Heap.get?_push_size _ rfl, rfl, rfl⟩, hat.at' fun o e => Heap.get?_push_of_some _ e⟩, fun b hb => ?_, by rw [hlen]; exact hne, CmpOf.ints_lt _ val, fun v h' tk hv hk => ?_⟩
  · show b < (s.heap.push _).objs.size
    rw [Heap.size_push]
    rcases List.mem_cons.mp hb with rfl | hb
    · exact Nat.lt_succ_self _
    · rw [List.mem_singleton.mp hb]; exact Nat.lt_succ_of_lt hlt
  · obtain ⟨t, rfl⟩ := val _ v hv
    have hk' : ∀ b o, s.heap.get? b = some o → h'.get? b = some o := fun b o e => hk b o (fun hI => absurd (Heap.lt_size e) (by rw [List.mem_singleton.mp hI]; exact Nat.lt_irrefl _)) (Heap.get?_push_of_some _ e)
    obtain ⟨h1, h2⟩ := argBest_lt (fun i => (c.map (·.1)).getD i 0) (kvs.length - 1)
    refine h h' _ t tk (F.keeps hk') (fun p hp => ⟨hk' _ _ (N p hp).1, (N p hp).2⟩) ?_ fun a ha => ?_
    · exact kso_getD (by rw [List.length_map]; omega)
    · obtain ⟨j, hj, rfl⟩ := List.getElem_of_mem ha
      rw [List.length_map] at hj
      have := h2 j (by omega)
      rw [List.getD_eq_getElem?_getD (i := j), List.getElem?_eq_getElem (by rw [List.length_map]; exact hj)] at this
      exact this
end
section
variable {prog : Program} {w : World} {A : Around} {E : Value → Shared → Prop} {s : Shared} {env : Env} {h₀ : Heap} {Q : Flow → Shared → Prop}
/-- over a dict's keys -/
theorem NFor.dictN {σ : Type} {x : Str} {px : Pos} {body : List Stmt} {d : Addr} {od : Obj} {cd : List (Int × Int)} {m₀ : Str → Option Value} (Led : σ → List (Addr × Obj)) (ps : σ → List (Str × Value)) (P : Nat → σ → Prop) (c₀ : σ)
    (hh : A.handled = none) (lo : (d == sysModules) = false) (D : IntD prog w od cd) (hl : ∀ c, (d, od) ∈ Led c)
    (F : Fr h₀ env.locals s.heap m₀) (N : News h₀ env.locals s.heap (Led c₀)) (hp : ∀ p ∈ ps c₀, m₀ p.1 = some p.2) (hP : P 0 c₀)
    (hx : env.kindOf x = some .local) (hc : (env.scope.kind == .class || (env.scope.kind == .module && env.locals != env.globals)) = false)
    (turn : ∀ i k t c h tk (u : Str → Option Value) I oI, (cd.map (·.1))[i]? = some k → P i c → Fr h₀ env.locals h (fun z => if z = x then some (.int k t) else kstB u (ps c) z) → News h₀ env.locals h ((I, oI) :: Led c) → Off1 I (Led c) →
      wpAny (model prog w) A (execs body env) (NPost h₀ env.locals Led ps [(I, oI)] (P (i + 1)) { s with heap := h, toks := tk } Q) E { s with heap := h, toks := tk })
    (done : ∀ c h tk (u : Str → Option Value), P cd.length c → Fr h₀ env.locals h (kstB u (ps c)) → News h₀ env.locals h (Led c) → Q .next { s with heap := h, toks := tk })
    (hE : PassesOwn (model prog w) A env E := by passes_own) :
    NFor prog w A env (.Name x px) body Q E (.ref d) s := by
  unfold NFor
  obtain ⟨kvs, hd, hf⟩ := D
  have hlen : kvs.length = cd.length := by rw [← hf.length, kdfD_length]
  have hD : s.heap.DictOf (PySem.intKind prog w) d kvs := Heap.dictOf_iff.mpr ⟨od, (N _ (hl c₀)).1, hd⟩
  obtain ⟨ep, hat⟩ := hD.dictAt
  obtain ⟨o, es, ho, hrest⟩ := id hat
  have eo : o = od := by
    have := (N _ (hl c₀)).1
    dsimp only at this
    rw [ho] at this
    exact Option.some.inj this
  subst eo
  have hlt : d < s.heap.objs.size := Heap.lt_size ho
  refine wpAny_pyIter_dict lo hat ?_
  refine nm_loop Led ps P c₀ (Walks.dictKeys (knd := PySem.intKind prog w) (A := A) hh s.heap.objs.size d (Nat.ne_of_lt hlt) kvs ep) (fun i h st => let ⟨o, ho, _⟩ := st.1; ⟨o, ho⟩) (fun i h h' o' c m _ st e e' _ N' => ?_) (Nat.ne_of_lt F.ns.lt) (next_is_new F) ?_
    ⟨⟨_, Heap.get?_push_size _ rfl, rfl, rfl⟩, hat.at' fun o e => Heap.get?_push_of_some _ e⟩ (F.push _) (fun p hq => ⟨Heap.get?_push_of_some _ (N p hq).1, (N p hq).2⟩) (off1_of fun p hq => Nat.ne_of_lt (Heap.lt_size (N p hq).1)) hp hP hx hc ?_ (by rw [hlen]; exact done) hE
  · refine ⟨?_, ⟨o, es, (N' _ (hl c)).1, hrest⟩⟩
    exact st.1.at fun o2 e2 => by rw [e] at e2; rw [e', ← e2]
  · intro hm
    rcases List.mem_cons.mp hm with e | hm
    · exact absurd F.ns.lt (e ▸ Nat.lt_irrefl _)
    · exact (N _ (hl c₀)).2.1 (List.mem_singleton.mp hm).symm
  · rintro i v c h tk u I oI hi ⟨k, x', hx', hk⟩ hPc F' N' off
    obtain ⟨p, t, hp', rfl⟩ := dkey hf hx' hk
    exact turn i p.1 t c h tk u I oI (by rw [List.getElem?_map, hp']; rfl) hPc F' N' off
end
end Mine
end
section
open PySem PySem.W PySem.Calls PyProof.Rows PyProof.Rows.LCg
namespace Mine
theorem entry_upd_loop : entryFor table "dict.update.loop" = some Builtin.«dict.update.loop» := entryFor_of_tree (by kernel_rfl)
theorem plain_upd_loop : plainId "dict.update.loop" = true := by decide +kernel
theorem list_keys_none : typeLookup (.type "list") "keys" = pure none := am_miss_of_fast (by kernel_rfl)
section
variable {prog : Program} {w : World} {A : Around} {E : Value → Shared → Prop} {s : Shared}
theorem keys_none_list {Q : Option Value → Shared → Prop} {a : Addr} {xs : Array Value} {k : Nat} (hx : s.heap.get? a = some (listOf xs k)) (hA : A.handled = none)
    (h : ∀ h' tk, (∀ b o, s.heap.get? b = some o → h'.get? b = some o) → Q none { s with heap := h', toks := tk }) :
    wpAny (model prog w) A (getAttr? (.ref a) "keys") Q E s := by
  obtain ⟨hp, g, d, tk, os⟩ := s
  have hx : hp.get? a = some { cls := .type "list", dict := none, data := .seq xs k, slots := #[] } := hx
  have hT : ∀ hh tk', (∀ b o, hp.get? b = some o → hh.get? b = some o) → (⟨hh, g, d, tk', os⟩ : Shared).TypeIs (.ref a) "list" := fun _ _ hk => ⟨_, hk _ _ hx, rfl⟩
  have hT0 : ∀ tk', (⟨hp, g, d, tk', os⟩ : Shared).TypeIs (.ref a) "list" := fun _ => ⟨_, hx, rfl⟩
  have f1 := sub_AttributeError
  have f3 := F.slot_list_getattribute.lookup
  have f4 := F.slot_list_getattribute.bind (.ref a)
  have f5 := am_list_getattr_none
  unfold getAttr? getAttrBy? getAttrBy
  refine wpAny_bind (wpAny_mkText (wpAny_bind (wpAny_attempt ?_)))
  repeat (any_goals (first | assumption | exact hT0 _ | ((with_reducible show wpAny _ _ (call (Value.builtin "list.__getattribute__") _ _) _ _ _); refine call_meets F.slot_list_getattribute (hT0 _) am_entry_list_getattribute (F.args_list_getattribute_2 _ _) (meets_getattribute_miss_list a xs k #[] "keys" _ list_keys_none (by decide) ) ⟨hx, hA, fun h' tk' e hx' => ?_⟩) | wp_step))
  obtain ⟨t', u', he⟩ := hx'.there
  show wpAny _ _ (getattributeRaised _ _ _ _ _ _ _) _ _ _
  unfold getattributeRaised
  repeat (any_goals (first | assumption | wp_step))
  exact h _ _ hx'.keeps
def putAll (c ps : List (Int × Int)) : List (Int × Int) := ps.foldl (fun c p => kdfPut c p.1 p.2) c
theorem upd_loop {R : Result → Shared → Prop} {l d I : Addr} {vs : List Value} {ps : List (Int × Int)} {h₁ : Heap} (hh : A.handled = none) (hlI : l ≠ I) (hdI : d ≠ I) (hld : l ≠ d)
    (hl : h₁.IsList l vs.toArray) (hp : PairsAt h₁ vs ps) (hoff : ∀ b o, h₁.get? b = some o → b < d) (hI : d < I)  (hz : ps.length ≤ 1000)
    (hR : ∀ h tk kvs, (∀ b o, b ≠ d → b ≠ I → h₁.get? b = some o → h.get? b = some o) → h.DictOf (PySem.intKind prog w) d kvs → PyProof.V.FlatPairs PyData.int kvs (kdfD (putAll [] ps)) → R (.ok (.ret .none)) { s with heap := h, toks := tk }) :
    ∀ (r i : Nat) (h : Heap) (tk : Nat) (kvs : List (Int × Value)), ps.length - i = r → i ≤ ps.length → (∀ b o, b ≠ d → b ≠ I → h₁.get? b = some o → h.get? b = some o) →
      h.IsListIter I l i → h.DictOf (PySem.intKind prog w) d kvs → PyProof.V.FlatPairs PyData.int kvs (kdfD (putAll [] (ps.take i))) →
      codeAny (model prog w) A (.builtin "dict.update.loop" ⟨[.ref d, .ref I, rawInt i, .none], []⟩) R { s with heap := h, toks := tk } := by
  intro r
  have hvl := hp.length
  induction r with
  | zero =>
    intro i h tk kvs hr hi hk hit hd hf
    have hin : i = ps.length := by omega
    subst hin
    refine codeAny_builtin entry_upd_loop ?_
    rw [Around.under_plainId plain_upd_loop _]
    show wpAny _ A.in1 (pyNext (.ref I) >>= _) _ _ _
    have hl' : h.IsList l vs.toArray := hl.at fun o e => hk l o hld hlI e
    refine wpAny_bind (wpAny_pyNext_list_end hh hit hl' (by simp [hvl]) fun h₂ he => ?_)
    show wpAny _ A.in1 (Builtin.Dict.addKeywords d [] >>= _) _ _ _
    refine wpAny_bind (wpAny_pure (wpAny_pure ?_))
    rw [List.take_length] at hf
    exact hR h₂ tk kvs (fun b o hb hb2 e => he b o hb2 (hk b o hb hb2 e)) (hd.at fun o e => he d o hdI e) hf
  | succ r ih =>
    intro i h tk kvs hr hi hk hit hd hf
    have hlt : i < ps.length := by omega
    have hx : vs[i]? = some vs[i] := List.getElem?_eq_getElem (by omega)
    obtain ⟨t, a, b, ta, tb, ev, hab, htup⟩ := hp.get hx
    rw [ev] at hx
    refine codeAny_builtin entry_upd_loop ?_
    rw [Around.under_plainId plain_upd_loop _]
    show wpAny _ A.in1 (pyNext (.ref I) >>= _) _ _ _
    have hl' : h.IsList l vs.toArray := hl.at fun o e => hk l o hld hlI e
    refine wpAny_bind (wpAny_pyNext_list_item hit hl' (by simpa using hx) fun h₂ hit₂ hs₂ => ?_)
    have hk₂ : ∀ b o, b ≠ d → b ≠ I → h₁.get? b = some o → h₂.get? b = some o := fun b o hb hb2 e => hs₂.extBut b o hb2 (hk b o hb hb2 e)
    obtain ⟨ot, hot, hct, nt, hdt⟩ := htup
    have htd : t < d := hoff _ _ hot
    have hot₂ := hk₂ t ot (Nat.ne_of_lt htd) (Nat.ne_of_lt (Nat.lt_trans htd hI)) hot
    have hd₂ : h₂.DictOf (PySem.intKind prog w) d kvs := hd.at fun o e => hs₂.extBut d o hdI e
    refine wpAny_bind (wpAny_holding ?_)
    refine wpAny_bind (wpAny_tryCatch ?_)
    unfold Builtin.Dict.pairItems
    refine wpAny_bind (wpAny_typeOf (T := "tuple") ⟨_, hot₂, hct⟩ ?_)
    rw [if_pos (by decide)]
    refine wpAny_bind (wpAny_seqItems hot₂ hdt ?_)
    refine wpAny_pure ?_
    show wpAny _ A.in1 (holding [Value.int a ta, Value.int b tb] (dictSet d (.int a ta) (.int b tb))) _ _ _
    have hlk : kvs.length = (putAll [] (ps.take i)).length := by rw [← hf.length, kdfD_length]
    have hpl : ∀ (q c : List (Int × Int)), (putAll c q).length ≤ c.length + q.length := by
      intro q
      induction q with
      | nil => intro c; exact Nat.le_refl _
      | cons x q ih => intro c; have h1 := ih (kdfPut c x.1 x.2); have h2 := kdfPut_len c x.1 x.2; show (putAll (kdfPut c x.1 x.2) q).length ≤ _; rw [List.length_cons]; omega
    have hsz : kvs.length ≤ sizeLine := by
      have := hpl (ps.take i) []
      rw [List.length_nil, List.length_take] at this
      rw [sizeLine_eq, hlk]; omega
    refine wpAny_holding (wpAny_dictSet_pairs (knd := PySem.intKind prog w) (hsz := hsz) (intKind_is _ _ a ta) hd₂ fun h₃ hd₃ hs₃ => ?_)
    have hf₃ : PyProof.V.FlatPairs PyData.int (stored kvs a (Value.int b tb)) (kdfD (putAll [] (ps.take (i + 1)))) := by
      have e : putAll [] (ps.take (i + 1)) = kdfPut (putAll [] (ps.take i)) a b := by
        unfold putAll
        rw [foldl_take _ _ hab]
      rw [e, ← kdfD_put]
      exact PyProof.V.FlatPairs.stored PyProof.V.same_int hf a (PyProof.V.Flat.int b tb)
    refine wpAny_pure ⟨plainId_quiet plain_upd_loop _, ?_⟩
    have := ih (i + 1) h₃ (tk + 1) _ (by omega) hlt (fun b o hb hb2 e => hs₃.extBut b o hb (hk₂ b o hb hb2 e)) (hit₂.at fun o e => hs₃.extBut I o (Ne.symm hdI) e) hd₃ hf₃
    exact this
theorem nm_dictOf {Q : Value → Shared → Prop} {h₀ : Heap} {L l : Addr} {m : Str → Option Value} {news : List (Addr × Obj)} {vs : List Value} {n : Nat} {ps : List (Int × Int)} (hh : A.handled = none) (Fh : Fr h₀ L s.heap m) (N : News h₀ L s.heap news) (hbig : h₀.NoLimit)
    (ho : s.heap.get? l = some (listOf vs.toArray n)) (hp : PairsAt s.heap vs ps) (hz : ps.length ≤ 1000)
    (k : ∀ d h' o tk, Fr h₀ L h' m → News h₀ L h' ((d, o) :: news) → (∀ p ∈ news, p.1 < d) → (d == sysModules) = false → IntD prog w o (putAll [] ps) → Q (.ref d) { s with heap := h', toks := tk }) :
    wpAny (model prog w) A (call (.type "dict") [.ref l]) Q E s := by
  have hlt : l < s.heap.objs.size := Heap.lt_size ho
  obtain ⟨d, hd⟩ : ∃ d, s.heap.objs.size = d := ⟨_, rfl⟩
  refine callType_codes (Q₁ := fun obj s₁ => obj = .ref s.heap.objs.size ∧ s₁ = { s with heap := s.heap.push { cls := .type "dict", data := .dict #[] } }) F.kt_called_dict (F.kt_typeCall_dict_1 _) F.entry_dict_init (kt_code_dict_new _ ⟨rfl, rfl⟩) ?_
  rintro obj s₁ ⟨rfl, rfl⟩
  have hnew : (s.heap.push { cls := .type "dict", data := .dict #[] }).DictOf (PySem.intKind prog w) s.heap.objs.size [] := Heap.DictOf.new s.heap
  have hl₁ : (s.heap.push { cls := .type "dict", data := .dict #[] }).get? l = some (listOf vs.toArray n) := Heap.get?_push_of_some _ ho
  have hlI : (s.heap.push { cls := .type "dict", data := .dict #[] }).IsList l vs.toArray := ⟨_, hl₁, rfl, _, rfl⟩
  refine ⟨hnew.typeIs, F.args_dict_init_2 _ _, ?_⟩
  unfold Builtin.«dict.__init__»
  refine wpAny_bind ?_
  unfold Builtin.Dict.selfAndRest
  refine wpAny_bind (wpAny_notOrdered_dict hnew.typeIs ?_)
  show wpAny _ _ (pure (s.heap.objs.size, [Value.ref l])) _ _ _
  refine wpAny_pure ?_
  show wpAny _ _ (Builtin.Dict.updateFrom "dict.__init__" s.heap.objs.size (.ref l) [] .none) _ _ _
  unfold Builtin.Dict.updateFrom
  refine wpAny_bind (wpAny_typeOf hlI.typeIs ?_)
  rw [if_pos (by decide)]
  refine wpAny_bind (keys_none_list hl₁ hh fun h₁ tk₁ hk₁ => ?_)
  have hl₂ : h₁.IsList l vs.toArray := hlI.at fun o e => hk₁ _ _ e
  have hd₁ : h₁.DictOf (PySem.intKind prog w) s.heap.objs.size [] := hnew.keep hk₁
  have hk₀ : ∀ b o, s.heap.get? b = some o → h₁.get? b = some o := fun b o e => hk₁ _ _ (Heap.get?_push_of_some _ e)
  have hdI : s.heap.objs.size < h₁.objs.size := let ⟨_, _, _, e, _⟩ := hd₁; Heap.lt_size e
  show wpAny _ _ (pyIter (.ref l) >>= fun it => again (.builtin "dict.update.loop" ⟨[.ref s.heap.objs.size, it, rawInt 0, .none], []⟩)) _ _ _
  refine wpAny_bind (wpAny_pyIter_list hl₂ ?_)
  refine wpAny_pure ⟨plainId_quiet plain_upd_loop _, ?_⟩
  refine upd_loop (h₁ := s.heap) (A := A.in1) hh (Nat.ne_of_lt (Nat.lt_trans hlt hdI)) (Nat.ne_of_lt hdI) (Nat.ne_of_lt hlt) ⟨_, ho, rfl, _, rfl⟩ hp (fun b o e => Heap.lt_size e) hdI hz ?_ _ 0 _ _ [] rfl (Nat.zero_le _)
    (fun b o _ _ e => Heap.get?_push_of_some _ (hk₀ b o e)) ⟨_, Heap.get?_push_size _ rfl, rfl, rfl⟩ (hd₁.push _) .nil
  intro h tk kvs hk hd₂ hf
  have hk' : ∀ b o, s.heap.get? b = some o → h.get? b = some o := fun b o e => hk b o (Nat.ne_of_lt (Heap.lt_size e)) (Nat.ne_of_lt (Nat.lt_trans (Heap.lt_size e) hdI)) e
  obtain ⟨o', ho', hd'⟩ := Heap.dictOf_iff.mp hd₂
  refine ⟨rfl, k _ h o' tk (Fh.keeps hk') (fun p hp => ?_) (fun p hp => Heap.lt_size (N p hp).1) (Fh.notModules (modules_low hbig)) ⟨kvs, hd', hf⟩⟩
  rcases List.mem_cons.mp hp with rfl | hp
  · exact ⟨ho', Nat.ne_of_gt Fh.ns.lt, next_is_new Fh⟩
  · exact ⟨hk' _ _ (N p hp).1, (N p hp).2⟩
end
end Mine
end
section
open PySem PySem.W PySem.Calls PyProof.Rows PyProof.Rows.LCg
namespace Mine
/-- one step after another -/
def it (f : Int → Int) : Nat → Int → Int
  | 0, x => x
  | n + 1, x => it f n (f x)
theorem it_succ (f : Int → Int) : ∀ (n : Nat) (x : Int), it f (n + 1) x = f (it f n x)
  | 0, _ => rfl
  | n + 1, x => it_succ f n (f x)
theorem it_add (f : Int → Int) (a : Nat) : ∀ (b : Nat) (x : Int), it f (a + b) x = it f a (it f b x)
  | 0, _ => rfl
  | b + 1, x => it_add f a b (f x)
/-- where a table sends a name, itself when it has no row -/
def nxt (c : List (Int × Int)) (x : Int) : Int := kdfLook c x x
/-- the least name of a ring -/
def CM (f : Int → Int) (g : Int) : Prop := f g ≠ g ∧ (∃ m, 0 < m ∧ it f m g = g) ∧ ∀ i, g ≤ it f i g
open Classical in
noncomputable def cm (f : Int → Int) (g : Int) : Bool := decide (CM f g)
open Classical in
theorem cm_true {f : Int → Int} {g : Int} : cm f g = true ↔ CM f g := by unfold cm; exact decide_eq_true_iff
open Classical in
theorem cm_false {f : Int → Int} {g : Int} : cm f g = false ↔ ¬ CM f g := by unfold cm; exact decide_eq_false_iff_not
noncomputable def ringsIn (f : Int → Int) (ks : List Int) : Nat := (ks.filter (cm f)).length
noncomputable def rounds (ps : List (Int × Int)) : Nat := ringsIn (nxt ps) (ps.map (·.1))
theorem has_iff {c : List (Int × Int)} {k : Int} : kdfHas c k = true ↔ k ∈ c.map (·.1) := by
  unfold kdfHas
  rw [List.any_eq_true]
  constructor
  · rintro ⟨p, hp, e⟩; exact List.mem_map.mpr ⟨p, hp, of_decide_eq_true e⟩
  · intro h; obtain ⟨p, hp, e⟩ := List.mem_map.mp h; exact ⟨p, hp, decide_eq_true e⟩
theorem has_false {c : List (Int × Int)} {k : Int} : kdfHas c k = false ↔ k ∉ c.map (·.1) := by
  rw [← has_iff]; cases kdfHas c k <;> simp
theorem look_mem {c : List (Int × Int)} {k : Int} (d : Int) (h : k ∈ c.map (·.1)) : (k, kdfLook c k d) ∈ c := by
  induction c with
  | nil => simp at h
  | cons p r ih =>
    unfold kdfLook
    by_cases e : p.1 = k
    · rw [List.find?_cons_of_pos (by simpa using e)]
      subst e
      exact .head _
    · rw [List.find?_cons_of_neg (by simpa using e)]
      have h' : k ∈ r.map (·.1) := by
        rcases List.mem_cons.mp h with h | h
        · exact absurd h.symm e
        · exact h
      exact .tail _ (ih h')
theorem look_none {c : List (Int × Int)} {k : Int} (d : Int) (h : k ∉ c.map (·.1)) : kdfLook c k d = d := by
  induction c with
  | nil => rfl
  | cons p r ih =>
    unfold kdfLook
    have e : p.1 ≠ k := fun e => h (e ▸ .head _)
    rw [List.find?_cons_of_neg (by simpa using e)]
    exact ih fun x => h (.tail _ x)
theorem look_any {c : List (Int × Int)} {k : Int} (d d' : Int) (h : k ∈ c.map (·.1)) : kdfLook c k d = kdfLook c k d' := by
  induction c with
  | nil => simp at h
  | cons p r ih =>
    unfold kdfLook
    by_cases e : p.1 = k
    · rw [List.find?_cons_of_pos (by simpa using e)]; rfl
    · rw [List.find?_cons_of_neg (by simpa using e)]
      have h' : k ∈ r.map (·.1) := by
        rcases List.mem_cons.mp h with h | h
        · exact absurd h.symm e
        · exact h
      exact ih h'
theorem look_of_mem {c : List (Int × Int)} (hn : (c.map (·.1)).Nodup) {k v : Int} (d : Int) (h : (k, v) ∈ c) : kdfLook c k d = v := by
  induction c with
  | nil => simp at h
  | cons p r ih =>
    unfold kdfLook
    rw [List.map_cons, List.nodup_cons] at hn
    rcases List.mem_cons.mp h with h | h
    · subst h
      rw [List.find?_cons_of_pos (by simp)]; rfl
    · have e : p.1 ≠ k := fun e => hn.1 (e ▸ List.mem_map.mpr ⟨_, h, rfl⟩)
      rw [List.find?_cons_of_neg (by simpa using e)]
      exact ih hn.2 h
theorem nodup_le {l : List Int} : ∀ {k : List Int}, l.Nodup → (∀ x ∈ l, x ∈ k) → l.length ≤ k.length := by
  induction l with
  | nil => intro k _ _; exact Nat.zero_le _
  | cons x r ih =>
    intro k hn hs
    rw [List.nodup_cons] at hn
    have hx := hs x (.head _)
    have := ih (k := k.erase x) hn.2 fun y hy => (List.mem_erase_of_ne (fun e => hn.1 (by rw [← e]; exact hy))).mpr (hs y (.tail _ hy))
    rw [List.length_erase_of_mem hx] at this
    have hk : 0 < k.length := List.length_pos_of_mem hx
    rw [List.length_cons]; omega
theorem put_fresh {c : List (Int × Int)} {k v : Int} (h : k ∉ c.map (·.1)) : kdfPut c k v = c ++ [(k, v)] := by
  unfold kdfPut
  rw [if_neg]
  intro e
  exact h (has_iff.mp e)
theorem putAll_nodup (ps : List (Int × Int)) : ∀ c : List (Int × Int), ((c ++ ps).map (·.1)).Nodup → putAll c ps = c ++ ps := by
  induction ps with
  | nil => intro c _; rw [List.append_nil]; rfl
  | cons p r ih =>
    intro c hn
    show putAll (kdfPut c p.1 p.2) r = _
    have hf : p.1 ∉ c.map (·.1) := by
      rw [List.map_append, List.map_cons, List.nodup_append] at hn
      exact fun hx => hn.2.2 _ hx _ (.head _) rfl
    rw [put_fresh hf, ih _ (by simpa using hn)]
    simp
/-- the walk from a name, n names of it -/
def path (f : Int → Int) (g : Int) (n : Nat) : List Int := (List.range n).map fun i => it f i g
theorem path_succ (f : Int → Int) (g : Int) (n : Nat) : path f g (n + 1) = path f g n ++ [it f n g] := by
  unfold path; rw [List.range_succ, List.map_append]; rfl
theorem path_len (f : Int → Int) (g : Int) (n : Nat) : (path f g n).length = n := by unfold path; rw [List.length_map, List.length_range]
theorem path_mem {f : Int → Int} {g : Int} {n : Nat} {x : Int} : x ∈ path f g n ↔ ∃ i, i < n ∧ it f i g = x := by
  unfold path; rw [List.mem_map]
  exact ⟨fun ⟨i, h, e⟩ => ⟨i, List.mem_range.mp h, e⟩, fun ⟨i, h, e⟩ => ⟨i, List.mem_range.mpr h, e⟩⟩
theorem path_inj {f : Int → Int} {g : Int} {n : Nat} (hn : (path f g n).Nodup) {i j : Nat} (hi : i < n) (hj : j < n) (e : it f i g = it f j g) : i = j := by
  have hp : List.Pairwise (fun a b => it f a g ≠ it f b g) (List.range n) := by
    have := hn
    unfold path at this
    exact List.pairwise_map.mp this
  rw [List.pairwise_iff_getElem] at hp
  rcases Nat.lt_trichotomy i j with h | h | h
  · have := hp i j (by simpa using hi) (by simpa using hj) h
    rw [List.getElem_range, List.getElem_range] at this
    exact absurd e this
  · exact h
  · have := hp j i (by simpa using hj) (by simpa using hi) h
    rw [List.getElem_range, List.getElem_range] at this
    exact absurd e.symm this
theorem it_mul {f : Int → Int} {g : Int} {m : Nat} (h : it f m g = g) : ∀ k, it f (m * k) g = g
  | 0 => rfl
  | k + 1 => by rw [Nat.mul_succ, it_add, h, it_mul h k]
theorem it_fix {f : Int → Int} {x : Int} (h : f x = x) : ∀ k, it f k x = x
  | 0 => rfl
  | k + 1 => by show it f k (f x) = x; rw [h, it_fix h k]
/-- what the search of one round finds -/
theorem cm_found {f : Int → Int} {g : Int} {n : Nat} (h0 : 0 < n) (hn : (path f g n).Nodup) (hend : f (it f n g) = it f n g ∧ it f n g ≠ g ∨ it f n g ∈ path f g n) :
    CM f g ↔ (it f n g = g ∧ 1 < n ∧ ∀ x ∈ path f g n, g ≤ x) := by
  constructor
  · rintro ⟨hne, ⟨m, hm, e⟩, hle⟩
    have hg : it f n g = g := by
      rcases hend with ⟨hfix, hng⟩ | hin
      · exfalso
        have e1 := it_mul e n
        have : n ≤ m * n := Nat.le_mul_of_pos_left n hm
        obtain ⟨r, hr⟩ := Nat.le.dest this
        rw [← hr, Nat.add_comm, it_add, it_fix hfix r] at e1
        exact hng e1
      · obtain ⟨j, hj, ej⟩ := path_mem.mp hin
        rcases Nat.eq_zero_or_pos j with rfl | hj0
        · exact ej.symm
        · exfalso
          -- f^(m j - j) on both
          have e1 := it_mul e j
          have hmj : j ≤ m * j := Nat.le_mul_of_pos_left j hm
          obtain ⟨r, hr⟩ := Nat.le.dest hmj
          have e2 : it f (r + n) g = it f (r + j) g := by rw [it_add, it_add, ej]
          have e3 : it f (r + j) g = g := by rw [Nat.add_comm, hr]; exact e1
          have e4 : it f (r + n) g = it f (n - j) g := by
            have : r + n = (n - j) + (r + j) := by omega
            rw [this, it_add, e3]
          have e5 : it f (n - j) g = it f 0 g := by rw [← e4, e2, e3]; rfl
          have := path_inj hn (i := n - j) (j := 0) (by omega) h0 e5
          omega
    refine ⟨hg, ?_, fun x hx => ?_⟩
    · rcases Nat.lt_or_ge 1 n with h | h
      · exact h
      · have : n = 1 := by omega
        subst this
        exact absurd hg hne
    · obtain ⟨i, _, rfl⟩ := path_mem.mp hx
      exact hle i
  · rintro ⟨hg, h1, hle⟩
    refine ⟨fun e => ?_, ⟨n, h0, hg⟩, fun i => ?_⟩
    · have := path_inj hn (i := 1) (j := 0) h1 h0 e
      cases this
    · have key : it f i g = it f (i % n) g := by
        have := Nat.div_add_mod i n
        rw [← this, Nat.add_comm, it_add, it_mul hg]
        rw [Nat.add_comm, this]
      rw [key]
      exact hle _ (path_mem.mpr ⟨_, Nat.mod_lt _ h0, rfl⟩)
/-- where a while stands -/
def NWhile (prog : Program) (w : World) (A : Around) (env : Env) (test : Expr) (body : List Stmt) (pos : Pos) (Q : Flow → Shared → Prop) (E : Value → Shared → Prop) (s : Shared) : Prop := wpAny (model prog w) A (exec (.While test body [] pos) env) Q E s
theorem nm_here {prog : Program} {w : World} {A : Around} {env : Env} {test : Expr} {body : List Stmt} {pos : Pos} {Q : Flow → Shared → Prop} {E : Value → Shared → Prop} {s : Shared} (h : NWhile prog w A env test body pos Q E s) : wpAny (model prog w) A (exec (.While test body [] pos) env) Q E s := h
section
variable {prog : Program} {w : World} {A : Around} {E : Value → Shared → Prop} {s : Shared} {h₀ : Heap} {L l : Addr} {m : Str → Option Value} {news : List (Addr × Obj)} {us : List Value} {n : Nat} {ns : List Int} {Q : Value → Shared → Prop}
theorem nm_len (N : News h₀ L s.heap news) (hm : (l, listOf us.toArray n) ∈ news) (hz : us.length ≤ 1000) (h : Q (.int us.length (s.toks + 1)) { s with toks := s.toks + 1 + 1 }) : wpAny (model prog w) A (call (.builtin "len") [.ref l]) Q E s :=
  PyProof.Rows.len_list (News.isList N hm) (by rw [List.size_toArray]; omega) (by rw [List.size_toArray]; exact h)
theorem nm_min (F : Fr h₀ L s.heap m) (N : News h₀ L s.heap news) (hm : (l, listOf us.toArray n) ∈ news) (hi : IntsAre us ns) (hne : 0 < us.length) (hh : A.handled = none)
    (h : ∀ h' M (t : Tok) tk, Fr h₀ L h' m → News h₀ L h' news → M ∈ ns → (∀ a, a ∈ ns → M ≤ a) → Q (.int M t) { s with heap := h', toks := tk }) : wpAny (model prog w) A (call (.builtin "min") [.ref l]) Q E s :=
  kso_min F N (News.isList N hm) hi (by rw [← hi.length]; exact hne) hh h
end
theorem filter_take {p : Int → Bool} {ks : List Int} {i : Nat} {k : Int} (h : ks[i]? = some k) : ((ks.take (i + 1)).filter p).length = ((ks.take i).filter p).length + (if p k = true then 1 else 0) := by
  rw [List.take_add_one, h, List.filter_append, List.length_append]
  by_cases e : p k = true
  · simp [e]
  · simp [e]
theorem rnd_yes {f : Int → Int} {ks : List Int} {i : Nat} {k c : Int} (h : ks[i]? = some k) (hc : c = ((ks.take i).filter (cm f)).length) (y : CM f k) : c + 1 = ((ks.take (i + 1)).filter (cm f)).length := by
  rw [filter_take h, if_pos (cm_true.mpr y), hc]; omega
theorem rnd_no {f : Int → Int} {ks : List Int} {i : Nat} {k c : Int} (h : ks[i]? = some k) (hc : c = ((ks.take i).filter (cm f)).length) (y : ¬ CM f k) : c = ((ks.take (i + 1)).filter (cm f)).length := by
  rw [filter_take h, if_neg (by rw [cm_false.mpr y]; simp), hc]; omega
theorem any_mem {l : List Int} {x : Int} (h : (l.any fun y => y == x) = true) : x ∈ l := by
  obtain ⟨y, hy, e⟩ := List.any_eq_true.mp h
  have : y = x := by simpa using e
  exact this ▸ hy
theorem any_not {l : List Int} {x : Int} (h : (l.any fun y => y == x) = false) : x ∉ l := fun hx => by
  have : (l.any fun y => y == x) = true := List.any_eq_true.mpr ⟨x, hx, by simp⟩
  rw [h] at this; cases this
theorem nm_dmeth {prog : Program} {w : World} {A : Around} {E : Value → Shared → Prop} {s : Shared} {h₀ : Heap} {L d : Addr} {news : List (Addr × Obj)} {o : Obj} {c : List (Int × Int)} {name : Str} {id : String} {pl : Sem Bool} {Q : Value × List Value → Shared → Prop} (slot : Slot "dict" name id) (ty : typeOf (.builtin id) = pure (.type "method_descriptor")) (N : News h₀ L s.heap news) (hp : (d, o) ∈ news) (D : IntD prog w o c) (h : Q (.builtin id, [.ref d]) s) :
    wpAny (model prog w) A (getMethod (.ref d) name pl) Q E s :=
  let ⟨_, a, _⟩ := D
  kdl_method slot ty N hp a h
section
variable {prog : Program} {w : World} {A : Around} {E : Value → Shared → Prop} {s : Shared} {h₀ : Heap} {L l : Addr} {news : List (Addr × Obj)} {us : List Value} {y : Value} {n : Nat} {c : List (Int × Int)} {Q : Bool → Shared → Prop}
theorem nm_ltruth0 (N : News h₀ L s.heap news) (hm : (l, listOf ([] : List Value).toArray n) ∈ news) (h : Q false { s with toks := s.toks + 1 + 1 }) : wpAny (model prog w) A (truthy (.ref l)) Q E s :=
  wpAny_truthy_list (News.isList N hm) (by decide) (by simpa using h)
theorem nm_ltruth1 (N : News h₀ L s.heap news) (hm : (l, listOf (us ++ [y]).toArray n) ∈ news) (hz : us.length ≤ 1000) (h : Q true { s with toks := s.toks + 1 + 1 }) : wpAny (model prog w) A (truthy (.ref l)) Q E s :=
  wpAny_truthy_list (News.isList N hm) (by rw [List.size_toArray, List.length_append, List.length_singleton]; omega) (by
    have e : (!(us ++ [y]).isEmpty) = true := by cases us <;> rfl
    simpa [e] using h)
theorem nm_dtruth0 (T : IntTab prog w s.heap l (kdfD [])) (h : Q false { s with toks := s.toks + 1 + 1 }) : wpAny (model prog w) A (truthy (.ref l)) Q E s := nm_dtruth (c := []) T (by decide) h
theorem nm_dtruth1 (T : IntTab prog w s.heap l (kdfD c)) (h0 : 0 < c.length) (hc : c.length ≤ 1000) (h : Q true { s with toks := s.toks + 1 + 1 }) : wpAny (model prog w) A (truthy (.ref l)) Q E s :=
  nm_dtruth T hc (by
    cases c with
    | nil => exact absurd h0 (by decide)
    | cons p r => exact h)
end
end Mine
end
section
open PySem PySem.W PySem.Calls PyProof.Rows PyProof.Rows.LCg
namespace Mine
local macro_rules | `(tactic| tb_start) => `(tactic| repeat' (first | (k_unfold; (try dsimp only)) | walk1 | (dsimp only; walk1) | fail "no step"))
local macro_rules | `(tactic| ktr_enter) => `(tactic| (refine' nm_call ?ps ?k1 ?k2 ?k3 ?k4 ?k5 ?kA ?kF ?kK ?k6 ?k7 ?k8 ?k9 ?kB ?kP ?_ ?c2 ?c3 ?c4 ?c5; (case kA => exact rfl); (case kF => exact rfl); (case kK => assumption); (case k1 => k_asm); (case k2 => k_asm); (case k3 => k_asm); (case k4 => k_asm); (case k5 => k_asm); (case k6 => k_is); (case k7 => k_is); (case k8 => ktr_room); (case k9 => exact BindsTo.of_eq rfl); (case c5 => decide); (case kB => exact locs rfl); (case c2 => exact rfl); (case c3 => exact rfl); (case c4 => exact rfl)))
local macro_rules | `(tactic| walk_at "exec For Name Name cons nil") => `(tactic| (k_here; refine nm_for ?_ ?hs; (case hs => intro _; with_unfolding_all rfl)))
local macro_rules | `(tactic| walk_at "call builtin:list.append") => `(tactic| (k_here; (with_reducible show wpAny _ _ (call (Value.builtin _) [Value.ref _, _]) _ _ _); k_dflt (refine' nm_append ?F ?N ?U ?z ?_; (case F => k_asm); (case N => k_asm); (case U => k_updF); (case z => first | omega | (simp only [List.length_append, List.length_cons, List.length_nil]; omega))); intro h' F' N'; (try dsimp only at N')))
local macro_rules | `(tactic| walk_at "compareOp In int ref") => `(tactic| (k_here; k_dflt (refine' kdf_in (IntD.tab ?D ?N ?m ?lo) ?_; (case N => k_asm); (case m => k_mem); (case D => assumption); (case lo => assumption))))
local macro_rules | `(tactic| walk_at "subscriptTail Name Name ref int") => `(tactic| (k_here; (with_reducible show wpAny _ _ (subscriptTail _ _ (Value.ref _) (Value.int _ _)) _ _ _); k_dflt (refine' kdf_item (IntD.tab ?D ?N ?m ?lo) ?hk ?_ ?hs ?hg; (case N => k_asm); (case m => k_mem); (case D => assumption); (case lo => assumption); (case hk => first | assumption | exact has_put _ _ _); (case hs => with_unfolding_all rfl); (case hg => intro _; with_unfolding_all rfl)); intro _))
local macro_rules | `(tactic| walk_at "call type:dict") => `(tactic| (k_here; (with_reducible show wpAny _ _ (call (Value.type _) [Value.ref _]) _ _ _); k_dflt (refine' nm_dictOf ?hh ?F ?N ?b ?o ?p ?z ?_; (case hh => rfl); (case F => k_asm); (case N => k_asm); (case b => exact TopRead.nolimit (by k_asm)); (case o => assumption); (case p => assumption); (case z => omega)); intro d' h' o' tk' F' N' l1 lo' hd'; (try k_lt l1)))
local macro_rules | `(tactic| walk_at "exec While") => `(tactic| (refine nm_here ?_))
local macro_rules | `(tactic| walk_at "call builtin:len") => `(tactic| (k_here; (with_reducible show wpAny _ _ (call (Value.builtin "len") [Value.ref _]) _ _ _); k_dflt (refine' nm_len ?N ?m ?z ?_; (case N => k_asm); (case m => k_mem); (case z => omega))))
local macro_rules | `(tactic| walk_at "call builtin:min") => `(tactic| (k_here; (with_reducible show wpAny _ _ (call (Value.builtin "min") [Value.ref _]) _ _ _); k_dflt (refine' nm_min ?F ?N ?m ?i ?z ?h ?_; (case F => k_asm); (case N => k_asm); (case m => k_mem); (case i => assumption); (case z => omega); (case h => rfl)); intro h' M' t' k' F' N' a' b'))
structure WS where
  rv : List Value
  rn : Nat
  x : Int
  t : Tok
  n : Nat
structure RS where
  n : Int
  t : Tok
set_option maxHeartbeats 8000000 in
theorem rounds_ok {w : World} {mean : ExcName → Option Value} {mg mb : Str → Option Value} {dp un : Nat} {gd : Option (List Code)} {cn : Str} {cs : Scope} {a : Addr} {ccd : Value} {cl : List (Str × Addr)} {outer : List Env} {A₀ : Around} {base h₀ : Heap} {L : Addr} {m : Str → Option Value} {s : Shared} {Q E : Value → Shared → Prop}
   {l : Addr} {vs : List Value} {nn : Nat} {ps : List (Int × Int)}
   (C : Cx w mean mg mb cs outer A₀ base h₀ L m s) (hl : s.heap.get? l = some (listOf vs.toArray nn)) (hp : PairsAt s.heap vs ps) (hn : (ps.map (·.1)).Nodup) (hz : ps.length ≤ 12)
   (hdp : dp + 1 < recursionLimit) (hun : un + 8 < cLine)
   (hret : ∀ (t : Tok) (h' : Heap) (tk' : Nat), Fr h₀ L h' m → (∀ b o, s.heap.get? b = some o → h'.get? b = some o) → Q (.int (rounds ps) t) { s with heap := h', toks := tk' }) :
   wpAny (model PySem.Challenge.rw_nm0001_01.row.prog w) (ktrTop dp un gd cn cs L a ccd cl outer) (call (.ref 60) [.ref l]) Q E s := by
  w_top off
  have : (PySem.Challenge.rw_nm0001_01 = PySem.Challenge.rw_nm0001_01) ∧ (hd.heap_39 w.params = hd.heap_39 w.params) := by k_fill; exact ⟨rfl, rfl⟩
  clear this
  obtain ⟨B, F, X, T, hk⟩ := C
  have N : News h₀ L s.heap [] := fun _ h => nomatch h
  k_dflt ktr_enter
  case ps => exact [(Str.ofString "pairs", .ref l)]
  case kP => rfl
  intro g' L' h' hkeep FG F' N' lt' B' X' T'
  have hlg := hkeep l _ hl (by simp)
  have hlh := F'.keep _ _ hlg
  have hpg := hp.mono (tuple_keep fun b o e => F'.keep _ _ (hkeep b o e (by simp)))
  clear hkeep lt' FG F X T B N hl hp
  (try dsimp only); (try k_fold)
  tb_start
  rename_i d h₁ od tk1 lo hD _ D h₂ l1 h₃ h₄ h₅ F₁ N₁
  rw [putAll_nodup ps [] (by simpa using hn), List.nil_append] at hD
  have hno : d ≠ L' := (N₁ _ (.tail _ (.head _))).2.1
  refine NFor.dictN (fun c : RS => [(d, od)]) (fun c => [(Str.ofString "origins", .ref d), (Str.ofString "found", .int c.n c.t)])
    (fun i c => c.n = (((ps.map (·.1)).take i).filter (cm (nxt ps))).length) ⟨0, tk1⟩ rfl lo hD (fun _ => .head _) F₁ (news_sub N₁ (by kst_inAny)) ?_ ?_ rfl rfl ?_ ?_
  · kst_all
  · rfl
  · rintro i k t ⟨c, tc⟩ h tk u I oI hix hP F₂ N₂ off
    dsimp only at hP F₂ N₂ off
    dsimp only [Off1] at off
    have hkm : k ∈ ps.map (·.1) := List.mem_of_getElem? hix
    have hkh : kdfHas ps k = true := has_iff.mpr hkm
    clear F₁ N₁
    (try k_fold)
    tb_start
    rename_i t1 R h₆ lR D₂ h₇ lD h₈ F₃ N₃ h₉ h₁₀ F₄ N₄
    clear F₃ N₃
    refine nm_while (fun c : WS => [(R, listOf c.rv.toArray c.rn), (I, oI), (d, od)])
      (fun c' => [(Str.ofString "here", .int c'.x c'.t), (Str.ofString "row", .ref R), (Str.ofString "goal", .int k t), (Str.ofString "origins", .ref d), (Str.ofString "found", .int c tc)])
      (fun c => 0 < c.n ∧ IntsAre c.rv (path (nxt ps) k c.n) ∧ (path (nxt ps) k c.n).Nodup ∧ (∀ x ∈ path (nxt ps) k c.n, x ∈ ps.map (·.1)) ∧ c.x = it (nxt ps) c.n k) (fun c => ps.length + 1 - c.n)
      ⟨[.int k t], 0, kdfLook ps k 0, t1, 1⟩ F₄ (news_sub N₄ (by kst_inAny)) ?_ ?_ ?_
    · kst_all
    · refine ⟨Nat.one_pos, .cons k t .nil, ?_, ?_, look_any 0 k hkm⟩
      · show [k].Nodup
        simp
      · intro x hx
        have : x = k := by simpa [path, it] using hx
        rw [this]; exact hkm
    · rintro ⟨rv, rn, x, tx, n⟩ h tk v ⟨hn0, hrv, hnd, hsub, hx⟩ F₅ N₅
      dsimp only at hn0 hrv hnd hsub hx F₅ N₅
      have hnl : n ≤ 12 := by
        have := nodup_le hnd hsub
        rw [path_len, List.length_map] at this
        omega
      have hrl : rv.length = n := by rw [hrv.length, path_len]
      clear F₄ N₄
      (try k_fold)
      tb_start
      · rename_i hhas _ _ hin ex hlen h12 M t2 k2 F6 N6 hM hall eM h13 F7 N7
        have he : nxt ps x = x ∧ x ≠ k ∨ x ∈ path (nxt ps) k n := .inr (any_mem hin)
        rw [hx] at he
        refine NEnd.intro ⟨c + 1, k2 + 1⟩ F7 N7 (by (try dsimp only); kst_inAny) ?_ ?_ ?_
        · intro q hq
          rw [List.mem_singleton.mp hq]
          exact off
        · kst_all
        · refine rnd_yes hix hP ((cm_found hn0 hnd he).mpr ⟨by rw [← hx]; exact ex, by omega, fun y hy => ?_⟩)
          rw [← eM]
          exact hall y hy
      · rename_i hhas _ _ hin ex hlen h12 M t2 k2 F6 N6 hM hall eM
        dsimp only [NPost]
        have he : nxt ps x = x ∧ x ≠ k ∨ x ∈ path (nxt ps) k n := .inr (any_mem hin)
        rw [hx] at he
        refine NEnd.intro ⟨c, tc⟩ (by k_asm) (by k_asm) (by (try dsimp only); kst_inAny) ?_ ?_ ?_
        · intro q hq
          rw [List.mem_singleton.mp hq]
          exact off
        · kst_all
        · refine rnd_no hix hP fun y => ?_
          obtain ⟨e1, e2, e3⟩ := (cm_found hn0 hnd he).mp y
          exact eM (Int.le_antisymm (hall k (path_mem.mpr ⟨0, hn0, rfl⟩)) (e3 M hM))
      · rename_i hhas _ _ hin ex hlen
        dsimp only [NPost]
        have he : nxt ps x = x ∧ x ≠ k ∨ x ∈ path (nxt ps) k n := .inr (any_mem hin)
        rw [hx] at he
        refine NEnd.intro ⟨c, tc⟩ (by k_asm) (by k_asm) (by (try dsimp only); kst_inAny) ?_ ?_ ?_
        · intro q hq
          rw [List.mem_singleton.mp hq]
          exact off
        · kst_all
        · refine rnd_no hix hP fun y => ?_
          obtain ⟨e1, e2, e3⟩ := (cm_found hn0 hnd he).mp y
          omega
      · rename_i hhas _ _ hin ex
        dsimp only [NPost]
        have he : nxt ps x = x ∧ x ≠ k ∨ x ∈ path (nxt ps) k n := .inr (any_mem hin)
        rw [hx] at he
        refine NEnd.intro ⟨c, tc⟩ (by k_asm) (by k_asm) (by (try dsimp only); kst_inAny) ?_ ?_ ?_
        · intro q hq
          rw [List.mem_singleton.mp hq]
          exact off
        · kst_all
        · refine rnd_no hix hP fun y => ?_
          obtain ⟨e1, e2, e3⟩ := (cm_found hn0 hnd he).mp y
          exact ex (hx.trans e1)
      · rename_i hhas _ _ hnin _ h6 F6 N6 t6 h7 F7 N7
        have hnx : x ∉ path (nxt ps) k n := any_not hnin
        have hxm : x ∈ ps.map (·.1) := has_iff.mp hhas
        have hnd' : (path (nxt ps) k (n + 1)).Nodup := by
          rw [path_succ, ← hx]
          exact List.nodup_append.mpr ⟨hnd, by simp, fun a ha b hb e => hnx (by rw [← List.mem_singleton.mp hb, ← e]; exact ha)⟩
        have hsub' : ∀ y ∈ path (nxt ps) k (n + 1), y ∈ ps.map (·.1) := by
          intro y hy
          rw [path_succ, ← hx] at hy
          rcases List.mem_append.mp hy with hy | hy
          · exact hsub y hy
          · rw [List.mem_singleton.mp hy]; exact hxm
        have hlt := nodup_le hnd' hsub'
        rw [path_len, List.length_map] at hlt
        refine NEnd.intro ⟨rv ++ [.int x tx], rn + 1, kdfLook ps x 0, t6, n + 1⟩ F7 N7 (by (try dsimp only); kst_inAny) ?_ ?_ ?_
        · intro q hq
          cases hq
        · kst_all
        · refine ⟨⟨Nat.succ_pos _, ?_, hnd', hsub', ?_⟩, ?_⟩
          · rw [path_succ, ← hx]
            exact ints_snoc hrv x tx
          · show kdfLook ps x 0 = _
            rw [it_succ, ← hx]
            exact look_any 0 x hxm
          · show ps.length + 1 - (n + 1) < ps.length + 1 - n
            omega
      · rename_i hno ex hlen h12 M t2 k2 F6 N6 hM hall eM h13 F7 N7
        have he : nxt ps x = x ∧ x ≠ k ∨ x ∈ path (nxt ps) k n := .inl ⟨look_none x (has_false.mp hno), fun e => has_false.mp hno (e ▸ hkm)⟩
        rw [hx] at he
        refine NEnd.intro ⟨c + 1, k2 + 1⟩ F7 N7 (by (try dsimp only); kst_inAny) ?_ ?_ ?_
        · intro q hq
          rw [List.mem_singleton.mp hq]
          exact off
        · kst_all
        · refine rnd_yes hix hP ((cm_found hn0 hnd he).mpr ⟨by rw [← hx]; exact ex, by omega, fun y hy => ?_⟩)
          rw [← eM]
          exact hall y hy
      · rename_i hno ex hlen h12 M t2 k2 F6 N6 hM hall eM
        dsimp only [NPost]
        have he : nxt ps x = x ∧ x ≠ k ∨ x ∈ path (nxt ps) k n := .inl ⟨look_none x (has_false.mp hno), fun e => has_false.mp hno (e ▸ hkm)⟩
        rw [hx] at he
        refine NEnd.intro ⟨c, tc⟩ (by k_asm) (by k_asm) (by (try dsimp only); kst_inAny) ?_ ?_ ?_
        · intro q hq
          rw [List.mem_singleton.mp hq]
          exact off
        · kst_all
        · refine rnd_no hix hP fun y => ?_
          obtain ⟨e1, e2, e3⟩ := (cm_found hn0 hnd he).mp y
          exact eM (Int.le_antisymm (hall k (path_mem.mpr ⟨0, hn0, rfl⟩)) (e3 M hM))
      · rename_i hno ex hlen
        dsimp only [NPost]
        have he : nxt ps x = x ∧ x ≠ k ∨ x ∈ path (nxt ps) k n := .inl ⟨look_none x (has_false.mp hno), fun e => has_false.mp hno (e ▸ hkm)⟩
        rw [hx] at he
        refine NEnd.intro ⟨c, tc⟩ (by k_asm) (by k_asm) (by (try dsimp only); kst_inAny) ?_ ?_ ?_
        · intro q hq
          rw [List.mem_singleton.mp hq]
          exact off
        · kst_all
        · refine rnd_no hix hP fun y => ?_
          obtain ⟨e1, e2, e3⟩ := (cm_found hn0 hnd he).mp y
          omega
      · rename_i hno ex
        dsimp only [NPost]
        have he : nxt ps x = x ∧ x ≠ k ∨ x ∈ path (nxt ps) k n := .inl ⟨look_none x (has_false.mp hno), fun e => has_false.mp hno (e ▸ hkm)⟩
        rw [hx] at he
        refine NEnd.intro ⟨c, tc⟩ (by k_asm) (by k_asm) (by (try dsimp only); kst_inAny) ?_ ?_ ?_
        · intro q hq
          rw [List.mem_singleton.mp hq]
          exact off
        · kst_all
        · refine rnd_no hix hP fun y => ?_
          obtain ⟨e1, e2, e3⟩ := (cm_found hn0 hnd he).mp y
          exact ex (hx.trans e1)
  · rintro ⟨c, tc⟩ h tk u hP F₂ N₂
    dsimp only at hP F₂ N₂
    clear F₁ N₁
    (try dsimp only)
    tb_start
    refine NRet.intro [] (by k_asm) N₂ (fun p hp => nomatch hp) (fun F₃ N₃ hkeep fresh => ?_)
    have e : c = (rounds ps : Nat) := by
      rw [hP, ← List.length_map (f := fun p : Int × Int => p.1), List.take_length]
      rfl
    rw [e]
    exact hret tc _ _ F₃ (fun b o e => hkeep b o e (by simp))
end Mine
end
section
open PySem PySem.W PySem.Calls PyProof.Rows PyProof.Rows.LCg
namespace Mine
/-- how many rows read a name -/
def cnt (wt : List (Int × Int)) (x : Int) : Nat := (wt.filter fun p => decide (p.2 = x)).length
theorem cnt_app (a b : List (Int × Int)) (x : Int) : cnt (a ++ b) x = cnt a x + cnt b x := by
  unfold cnt; rw [List.filter_append, List.length_append]
theorem cnt_cons (p : Int × Int) (b : List (Int × Int)) (x : Int) : cnt (p :: b) x = (if p.2 = x then 1 else 0) + cnt b x := by
  unfold cnt
  by_cases h : p.2 = x
  · rw [List.filter_cons_of_pos (by simpa using h), if_pos h, List.length_cons]; omega
  · rw [List.filter_cons_of_neg (by simpa using h), if_neg h]; omega
theorem cnt_pos {wt : List (Int × Int)} {t o : Int} (h : (t, o) ∈ wt) : 0 < cnt wt o := by
  unfold cnt
  exact List.length_pos_of_mem (List.mem_filter.mpr ⟨h, by simp⟩)
theorem cnt_ex {wt : List (Int × Int)} {x : Int} (h : 0 < cnt wt x) : ∃ t, (t, x) ∈ wt := by
  unfold cnt at h
  obtain ⟨p, hp⟩ := List.exists_mem_of_length_pos h
  obtain ⟨h1, h2⟩ := List.mem_filter.mp hp
  have : p.2 = x := by simpa using h2
  exact ⟨p.1, by rw [← this]; exact h1⟩
theorem cnt_zero {wt : List (Int × Int)} {x : Int} (h : cnt wt x = 0) : ∀ p ∈ wt, p.2 ≠ x := fun p hp e => by
  have := cnt_pos (wt := wt) (t := p.1) (o := p.2) hp
  rw [e, h] at this; cases this
/-- after a put -/
theorem look_cons (p : Int × Int) (c : List (Int × Int)) (x d : Int) : kdfLook (p :: c) x d = if p.1 = x then p.2 else kdfLook c x d := by
  unfold kdfLook
  by_cases e : p.1 = x
  · rw [List.find?_cons_of_pos (by simpa using e), if_pos e]; rfl
  · rw [List.find?_cons_of_neg (by simpa using e), if_neg e]
theorem look_app (a b : List (Int × Int)) (x d : Int) (h : x ∉ a.map (·.1)) : kdfLook (a ++ b) x d = kdfLook b x d := by
  induction a with
  | nil => rfl
  | cons p a ih =>
    rw [List.cons_append, look_cons, if_neg (fun e => h (by rw [← e]; exact .head _)), ih fun hx => h (.tail _ hx)]
theorem look_map {c : List (Int × Int)} {k v : Int} (x d : Int) : kdfLook (c.map fun p => if decide (p.1 = k) then (p.1, v) else p) x d = if x ∈ c.map (·.1) then (if x = k then v else kdfLook c x d) else d := by
  induction c with
  | nil => simp [kdfLook]
  | cons p c ih =>
    rw [List.map_cons, look_cons, ih]
    have ep : (if decide (p.1 = k) = true then (p.1, v) else p).1 = p.1 := by split <;> rfl
    rw [ep, look_cons]
    by_cases e2 : p.1 = x
    · rw [if_pos e2, if_pos e2, if_pos (show x ∈ (p :: c).map (·.1) from e2 ▸ .head _)]
      by_cases e : p.1 = k
      · rw [if_pos (decide_eq_true e), if_pos (e2.symm.trans e)]
      · rw [if_neg (by simpa using e), if_neg (fun q => e (e2.trans q))]
    · rw [if_neg e2, if_neg e2]
      by_cases hm : x ∈ c.map (·.1)
      · rw [if_pos hm, if_pos (show x ∈ (p :: c).map (·.1) from .tail _ hm)]
      · rw [if_neg hm, if_neg]
        intro hx
        rcases List.mem_cons.mp hx with hx | hx
        · exact e2 hx.symm
        · exact hm hx
theorem look_put (c : List (Int × Int)) (k v x d : Int) : kdfLook (kdfPut c k v) x d = if x = k then v else kdfLook c x d := by
  by_cases h : k ∈ c.map (·.1)
  · have e : kdfPut c k v = c.map fun p => if decide (p.1 = k) then (p.1, v) else p := by
      exact if_pos (has_iff.mpr h)
    rw [e, look_map]
    by_cases hx : x ∈ c.map (·.1)
    · rw [if_pos hx]
    · rw [if_neg hx, if_neg (fun e => hx (by rw [e]; exact h)), look_none d hx]
  · rw [put_fresh h]
    by_cases hx : x ∈ c.map (·.1)
    · have : x ≠ k := fun e => h (e ▸ hx)
      rw [if_neg this]
      have a := look_mem d hx
      induction c with
      | nil => simp at hx
      | cons p c ih =>
        rw [List.cons_append, look_cons, look_cons]
        by_cases e : p.1 = x
        · rw [if_pos e, if_pos e]
        · rw [if_neg e, if_neg e]
          have hx' : x ∈ c.map (·.1) := by
            rcases List.mem_cons.mp hx with hx | hx
            · exact absurd hx.symm e
            · exact hx
          exact ih (fun q => h (.tail _ q)) hx' (look_mem d hx')
    · rw [look_app _ _ _ _ hx, look_cons, look_none d hx]
      by_cases e : x = k
      · rw [if_pos e, if_pos e.symm]
      · rw [if_neg e, if_neg (fun q => e q.symm)]; rfl
theorem keys_put (c : List (Int × Int)) (k v : Int) : (kdfPut c k v).map (·.1) = if k ∈ c.map (·.1) then c.map (·.1) else c.map (·.1) ++ [k] := by
  by_cases h : k ∈ c.map (·.1)
  · rw [if_pos h]
    have e : kdfPut c k v = c.map fun p => if decide (p.1 = k) then (p.1, v) else p := if_pos (has_iff.mpr h)
    rw [e, List.map_map]
    refine List.map_congr_left fun p _ => ?_
    show (if decide (p.1 = k) then (p.1, v) else p).1 = p.1
    split <;> rfl
  · rw [if_neg h, put_fresh h, List.map_append]; rfl
theorem has_put (c : List (Int × Int)) (k v : Int) : kdfHas (kdfPut c k v) k = true := by
  rw [has_iff, keys_put]
  split
  · assumption
  · exact List.mem_append.mpr (.inr (.head _))
theorem has_put_of {c : List (Int × Int)} {k v x : Int} (h : kdfHas c x = true) : kdfHas (kdfPut c k v) x = true := by
  rw [has_iff] at h ⊢
  rw [keys_put]
  split
  · exact h
  · exact List.mem_append.mpr (.inl h)
theorem has_look {c : List (Int × Int)} {k : Int} (h : kdfLook c k 0 ≠ 0) : kdfHas c k = true := by
  cases e : kdfHas c k with
  | true => rfl
  | false => exact absurd (look_none 0 (has_false.mp e)) h
/-- a small table -/
def Small (U : List Int) (c : List (Int × Int)) : Prop := (c.map (·.1)).Nodup ∧ ∀ x ∈ c.map (·.1), x ∈ U
theorem Small.put {U : List Int} {c : List (Int × Int)} (s : Small U c) {k : Int} (v : Int) (hk : k ∈ U) : Small U (kdfPut c k v) := by
  unfold Small
  rw [keys_put]
  split
  · exact s
  · rename_i h
    refine ⟨List.nodup_append.mpr ⟨s.1, by simp, fun a ha b hb e => h (by rw [← List.mem_singleton.mp hb, ← e]; exact ha)⟩, fun x hx => ?_⟩
    rcases List.mem_append.mp hx with hx | hx
    · exact s.2 x hx
    · rw [List.mem_singleton.mp hx]; exact hk
theorem Small.len {U : List Int} {c : List (Int × Int)} (s : Small U c) : c.length ≤ U.length := by
  have := nodup_le s.1 s.2
  rwa [List.length_map] at this
/-- one row taken out -/
theorem del_split {wt : List (Int × Int)} {t : Int} (hn : (wt.map (·.1)).Nodup) (h : t ∈ wt.map (·.1)) : ∃ a b, wt = a ++ (t, kdfLook wt t 0) :: b ∧ kdyDel wt t = a ++ b ∧ t ∉ a.map (·.1) ∧ t ∉ b.map (·.1) := by
  induction wt with
  | nil => simp at h
  | cons p r ih =>
    rw [List.map_cons, List.nodup_cons] at hn
    by_cases e : p.1 = t
    · subst e
      refine ⟨[], r, ?_, ?_, by simp, hn.1⟩
      · rw [look_cons, if_pos rfl]; rfl
      · unfold kdyDel
        rw [List.filter_cons_of_neg (by simp), List.nil_append]
        refine List.filter_eq_self.mpr fun q hq => ?_
        have : q.1 ≠ p.1 := fun e => hn.1 (e ▸ List.mem_map_of_mem hq)
        simp [this]
    · have h' : t ∈ r.map (·.1) := by
        rcases List.mem_cons.mp h with h | h
        · exact absurd h.symm e
        · exact h
      obtain ⟨a, b, e1, e2, e3, e4⟩ := ih hn.2 h'
      refine ⟨p :: a, b, ?_, ?_, ?_, e4⟩
      · rw [look_cons, if_neg e, List.cons_append, ← e1]
      · unfold kdyDel at e2 ⊢
        rw [List.filter_cons_of_pos (by simp [e]), e2]; rfl
      · rw [List.map_cons]
        intro hx
        rcases List.mem_cons.mp hx with hx | hx
        · exact e hx.symm
        · exact e3 hx
theorem look_split {a b : List (Int × Int)} {t o : Int} (hb : t ∉ b.map (·.1)) (ha : t ∉ a.map (·.1)) (x d : Int) : kdfLook (a ++ b) x d = if x = t then d else kdfLook (a ++ (t, o) :: b) x d := by
  by_cases e : x = t
  · rw [if_pos e, e]
    refine look_none d fun hx => ?_
    rw [List.map_append] at hx
    rcases List.mem_append.mp hx with hx | hx
    · exact ha hx
    · exact hb hx
  · rw [if_neg e]
    induction a with
    | nil => rw [List.nil_append, List.nil_append, look_cons, if_neg (fun q => e q.symm)]
    | cons p a ih =>
      rw [List.cons_append, List.cons_append, look_cons, look_cons]
      split
      · rfl
      · exact ih fun q => ha (.tail _ q)
/-- readers sent elsewhere -/
def rt (f : Int) (wt : List (Int × Int)) : List (Int × Int) := wt.map fun p => if p.2 = f then (p.1, 5) else p
theorem rt_keys (f : Int) (wt : List (Int × Int)) : (rt f wt).map (·.1) = wt.map (·.1) := by
  unfold rt
  rw [List.map_map]
  refine List.map_congr_left fun p _ => ?_
  show (if p.2 = f then (p.1, (5 : Int)) else p).1 = p.1
  split <;> rfl
theorem rt_look (f : Int) (wt : List (Int × Int)) (x d : Int) : kdfLook (rt f wt) x d = if x ∈ wt.map (·.1) then (if kdfLook wt x d = f then 5 else kdfLook wt x d) else d := by
  induction wt with
  | nil => rfl
  | cons p r ih =>
    show kdfLook ((if p.2 = f then (p.1, (5 : Int)) else p) :: rt f r) x d = _
    rw [look_cons, look_cons, ih]
    have ep : (if p.2 = f then (p.1, (5 : Int)) else p).1 = p.1 := by split <;> rfl
    rw [ep]
    by_cases e : p.1 = x
    · rw [if_pos e, if_pos e, if_pos (show x ∈ (p :: r).map (·.1) from e ▸ .head _)]
      by_cases e2 : p.2 = f
      · rw [if_pos e2, if_pos e2]
      · rw [if_neg e2, if_neg e2]
    · rw [if_neg e, if_neg e]
      by_cases hm : x ∈ r.map (·.1)
      · rw [if_pos hm, if_pos (show x ∈ (p :: r).map (·.1) from .tail _ hm)]
      · rw [if_neg hm, if_neg]
        intro hx
        rcases List.mem_cons.mp hx with hx | hx
        · exact e hx.symm
        · exact hm hx
theorem rt_cnt {f : Int} (hf : f ≠ 5) (wt : List (Int × Int)) (x : Int) : cnt (rt f wt) x = if x = f then 0 else if x = 5 then cnt wt 5 + cnt wt f else cnt wt x := by
  induction wt with
  | nil => show 0 = _; split <;> (try split) <;> rfl
  | cons p r ih =>
    show cnt ((if p.2 = f then (p.1, (5 : Int)) else p) :: rt f r) x = _
    rw [cnt_cons, cnt_cons, cnt_cons, cnt_cons, ih]
    by_cases e : p.2 = f
    · rw [if_pos e]
      by_cases e1 : x = f
      · rw [if_pos e1, if_pos e1, if_neg (fun q => hf (by rw [← e1]; exact q.symm))]
      · rw [if_neg e1, if_neg e1]
        by_cases e2 : x = 5
        · rw [if_pos e2, if_pos e2, if_pos e2.symm, if_neg (fun q => hf (by rw [← e, q])), if_pos e]; omega
        · rw [if_neg e2, if_neg e2, if_neg (fun q => e2 q.symm), if_neg (fun q => e1 (by rw [← q, e]))]
    · rw [if_neg e]
      by_cases e1 : x = f
      · rw [if_pos e1, if_pos e1, if_neg (fun q => e (by rw [q, e1]))]
      · rw [if_neg e1, if_neg e1]
        by_cases e2 : x = 5
        · rw [if_pos e2, if_pos e2, e2, if_neg e]; omega
        · rw [if_neg e2, if_neg e2]
/-- surely one reader each -/
theorem nodup_sub {ks : List Int} : ∀ {S : List Int}, ks.Nodup → (∀ x ∈ ks, x ∈ S) → S.length ≤ ks.length → S.Nodup ∧ ∀ x ∈ S, x ∈ ks := by
  induction ks with
  | nil =>
    intro S _ _ h
    have : S = [] := List.eq_nil_of_length_eq_zero (Nat.le_zero.mp h)
    subst this
    exact ⟨.nil, fun _ h => h⟩
  | cons k r ih =>
    intro S hn hs hl
    rw [List.nodup_cons] at hn
    have hk := hs k (.head _)
    have hl' : (S.erase k).length ≤ r.length := by rw [List.length_erase_of_mem hk]; rw [List.length_cons] at hl; omega
    obtain ⟨h1, h2⟩ := ih (S := S.erase k) hn.2 (fun y hy => (List.mem_erase_of_ne (fun e => hn.1 (by rw [← e]; exact hy))).mpr (hs y (.tail _ hy))) hl'
    have hp : S.Perm (k :: S.erase k) := List.perm_cons_erase hk
    have hnk : k ∉ S.erase k := fun h => hn.1 (h2 k h)
    refine ⟨(hp.nodup_iff).mpr (List.nodup_cons.mpr ⟨hnk, h1⟩), fun x hx => ?_⟩
    rcases List.mem_cons.mp ((hp.mem_iff).mp hx) with e | hx
    · rw [e]; exact .head _
    · exact .tail _ (h2 x hx)
theorem all_read {wt : List (Int × Int)} (hn : (wt.map (·.1)).Nodup) (h : ∀ t ∈ wt.map (·.1), cnt wt t ≠ 0) : (wt.map (·.2)).Nodup ∧ ∀ x ∈ wt.map (·.2), x ∈ wt.map (·.1) :=
  nodup_sub hn (fun x hx => by
    obtain ⟨t, ht⟩ := cnt_ex (Nat.pos_of_ne_zero (h x hx))
    exact List.mem_map.mpr ⟨_, ht, rfl⟩) (by rw [List.length_map, List.length_map]; exact Nat.le_refl _)
theorem snd_inj {wt : List (Int × Int)} (hn : (wt.map (·.2)).Nodup) {a b o : Int} (ha : (a, o) ∈ wt) (hb : (b, o) ∈ wt) : a = b := by
  induction wt with
  | nil => cases ha
  | cons p r ih =>
    rw [List.map_cons, List.nodup_cons] at hn
    rcases List.mem_cons.mp ha with e | ha
    · rcases List.mem_cons.mp hb with e' | hb
      · rw [← e] at e'; exact (congrArg Prod.fst e').symm
      · exact absurd (List.mem_map.mpr ⟨_, hb, by rw [← e]⟩) hn.1
    · rcases List.mem_cons.mp hb with e' | hb
      · exact absurd (List.mem_map.mpr ⟨_, ha, by rw [← e']⟩) hn.1
      · exact ih hn.2 ha hb
end Mine
end
section
open PySem PySem.W PySem.Calls PyProof.Rows PyProof.Rows.LCg
namespace Mine
theorem cm_congr {F G : Int → Int} {g : Int} (h : ∀ i, it G i g = it F i g) : cm G g = cm F g := by
  have key : CM G g ↔ CM F g := by
    have h1 : G g = F g := h 1
    unfold CM
    simp only [h, h1]
  cases e : cm F g with
  | true => exact cm_true.mpr (key.mpr (cm_true.mp e))
  | false => exact cm_false.mpr fun y => cm_false.mp e (key.mp y)
theorem nxt_mem {wt : List (Int × Int)} {x : Int} (h : x ∈ wt.map (·.1)) : (x, nxt wt x) ∈ wt := look_mem x h
theorem nxt_out {wt : List (Int × Int)} {x : Int} (h : x ∉ wt.map (·.1)) : nxt wt x = x := look_none x h
theorem rings_app (F : Int → Int) (a b : List Int) : ringsIn F (a ++ b) = ringsIn F a + ringsIn F b := by
  unfold ringsIn; rw [List.filter_append, List.length_append]
theorem rings_cons (F : Int → Int) (t : Int) (b : List Int) : ringsIn F (t :: b) = (if cm F t = true then 1 else 0) + ringsIn F b := by
  unfold ringsIn
  by_cases h : cm F t = true
  · rw [List.filter_cons_of_pos h, if_pos h, List.length_cons]; omega
  · rw [List.filter_cons_of_neg h, if_neg h]; omega
theorem rings_congr {F G : Int → Int} : ∀ {ks : List Int}, (∀ g ∈ ks, cm G g = cm F g) → ringsIn G ks = ringsIn F ks
  | [], _ => rfl
  | g :: r, h => by rw [rings_cons, rings_cons, h g (.head _), rings_congr fun x hx => h x (.tail _ hx)]
/-- a name that none reads is on no ring -/
theorem cm_unread {wt : List (Int × Int)} {t : Int} (h0 : cnt wt t = 0) : cm (nxt wt) t = false := by
  refine cm_false.mpr ?_
  rintro ⟨hne, ⟨m, hm, e⟩, _⟩
  have key : ∀ y, nxt wt y = t → y = t := by
    intro y hy
    by_cases hk : y ∈ wt.map (·.1)
    · exact absurd hy (cnt_zero h0 _ (nxt_mem hk))
    · rw [nxt_out hk] at hy; exact hy
  obtain ⟨k, rfl⟩ : ∃ k, m = k + 1 := ⟨m - 1, by omega⟩
  rw [it_succ] at e
  have e2 := key _ e
  rw [e2] at e
  exact hne e
theorem rings_del {wt : List (Int × Int)} {t : Int} (hn : (wt.map (·.1)).Nodup) (ht : t ∈ wt.map (·.1)) (h0 : cnt wt t = 0) :
    ringsIn (nxt (kdyDel wt t)) ((kdyDel wt t).map (·.1)) = ringsIn (nxt wt) (wt.map (·.1)) := by
  obtain ⟨a, b, e1, e2, ha, hb⟩ := del_split hn ht
  have hF : ∀ x, x ≠ t → nxt (kdyDel wt t) x = nxt wt x := by
    intro x hx
    unfold nxt
    rw [e2, look_split hb ha (o := kdfLook wt t 0), if_neg hx, ← e1]
  have hit : ∀ g, g ≠ t → ∀ i, it (nxt (kdyDel wt t)) i g = it (nxt wt) i g ∧ it (nxt wt) i g ≠ t := by
    intro g hg i
    induction i with
    | zero => exact ⟨rfl, hg⟩
    | succ i ih =>
      rw [it_succ, it_succ, ih.1, hF _ ih.2]
      refine ⟨rfl, ?_⟩
      by_cases hk : it (nxt wt) i g ∈ wt.map (·.1)
      · exact cnt_zero h0 _ (nxt_mem hk)
      · rw [nxt_out hk]; exact ih.2
  have hc : ∀ g, g ≠ t → cm (nxt (kdyDel wt t)) g = cm (nxt wt) g := fun g hg => cm_congr fun i => (hit g hg i).1
  have hne : ∀ g ∈ (kdyDel wt t).map (·.1), g ≠ t := by
    intro g hg e
    rw [e2, List.map_append] at hg
    rcases List.mem_append.mp hg with hg | hg
    · exact ha (e ▸ hg)
    · exact hb (e ▸ hg)
  rw [rings_congr fun g hg => hc g (hne g hg), e2]
  have e3 : wt.map (·.1) = a.map (·.1) ++ t :: b.map (·.1) := by
    have := congrArg (List.map (·.1)) e1
    rwa [List.map_append, List.map_cons] at this
  rw [e3, rings_app, rings_cons, if_neg (by rw [cm_unread h0]; simp), List.map_append, rings_app]
  omega
/-- every ring is walked round -/
theorem path_nodup {f : Int → Int} {g : Int} (n : Nat) (h : ∀ i j, i < j → it f i g ≠ it f j g) : (path f g n).Nodup := by
  unfold path
  refine List.pairwise_map.mpr (List.Pairwise.imp (fun {i j} hij => h i j hij) List.pairwise_lt_range)
theorem ring_back {wt : List (Int × Int)} (hs : (wt.map (·.2)).Nodup) (hsub : ∀ x ∈ wt.map (·.2), x ∈ wt.map (·.1)) {g : Int} (hg : g ∈ wt.map (·.1)) :
    (∀ i, it (nxt wt) i g ∈ wt.map (·.1)) ∧ ∃ m, 0 < m ∧ it (nxt wt) m g = g := by
  have hin : ∀ i, it (nxt wt) i g ∈ wt.map (·.1) := by
    intro i
    induction i with
    | zero => exact hg
    | succ i ih => rw [it_succ]; exact hsub _ (List.mem_map.mpr ⟨_, nxt_mem ih, rfl⟩)
  refine ⟨hin, ?_⟩
  have hinj : ∀ x y, x ∈ wt.map (·.1) → y ∈ wt.map (·.1) → nxt wt x = nxt wt y → x = y := fun x y hx hy e => by
    have a := nxt_mem hx
    have b := nxt_mem hy
    rw [e] at a
    exact snd_inj hs a b
  have back : ∀ i d, it (nxt wt) i g = it (nxt wt) (i + d) g → it (nxt wt) d g = g := by
    intro i d
    induction i with
    | zero => intro e; rw [Nat.zero_add] at e; exact e.symm
    | succ i ih =>
      intro e
      rw [it_succ, show i + 1 + d = (i + d) + 1 by omega, it_succ] at e
      exact ih (hinj _ _ (hin _) (hin _) e)
  by_cases h : ∃ i j, i < j ∧ it (nxt wt) i g = it (nxt wt) j g
  · obtain ⟨i, j, hij, e⟩ := h
    refine ⟨j - i, by omega, back i (j - i) ?_⟩
    rw [show i + (j - i) = j by omega]; exact e
  · exfalso
    have hnd := path_nodup (f := nxt wt) (g := g) (wt.length + 1) fun i j hij e => h ⟨i, j, hij, e⟩
    have hl := nodup_le (k := wt.map (·.1)) hnd fun x hx => by
      obtain ⟨i, _, rfl⟩ := path_mem.mp hx
      exact hin i
    rw [path_len, List.length_map] at hl
    omega
theorem rings_rt {wt : List (Int × Int)} {f : Int} (hn : (wt.map (·.1)).Nodup) (hd : ∀ p ∈ wt, p.1 ≠ p.2) (h5 : ∀ x ∈ wt.map (·.1), 5 < x)
    (hall : ∀ t ∈ wt.map (·.1), cnt wt t ≠ 0) (hf : f ∈ wt.map (·.1)) (hmin : ∀ x ∈ wt.map (·.1), f ≤ x) :
    ringsIn (nxt wt) (wt.map (·.1)) = ringsIn (nxt (rt f wt)) ((rt f wt).map (·.1)) + 1 := by
  obtain ⟨hs, hsub⟩ := all_read hn hall
  have hf5 : f ≠ 5 := fun e => by have := h5 f hf; omega
  have h5k : (5 : Int) ∉ wt.map (·.1) := fun h => by have := h5 5 h; omega
  have hF : ∀ x, nxt (rt f wt) x = if nxt wt x = f then 5 else nxt wt x := by
    intro x
    by_cases hk : x ∈ wt.map (·.1)
    · unfold nxt
      rw [rt_look, if_pos hk]
    · rw [nxt_out hk, nxt_out (by rw [rt_keys]; exact hk), if_neg]
      intro e; exact hk (e ▸ hf)
  have h55 : nxt (rt f wt) 5 = 5 := nxt_out (by rw [rt_keys]; exact h5k)
  have cf : cm (nxt wt) f = true := by
    obtain ⟨hin, m, hm, e⟩ := ring_back hs hsub hf
    refine cm_true.mpr ⟨fun q => hd _ (nxt_mem hf) q.symm, ⟨m, hm, e⟩, fun i => hmin _ (hin i)⟩
  have cf' : cm (nxt (rt f wt)) f = false := by
    refine cm_false.mpr ?_
    rintro ⟨_, ⟨m, hm, e⟩, _⟩
    obtain ⟨k, rfl⟩ : ∃ k, m = k + 1 := ⟨m - 1, by omega⟩
    rw [it_succ, hF] at e
    split at e
    · exact hf5 e.symm
    · rename_i h; exact h e
  have cg : ∀ g ∈ wt.map (·.1), g ≠ f → cm (nxt (rt f wt)) g = cm (nxt wt) g := by
    intro g hg hgf
    by_cases h : ∃ i, it (nxt wt) i g = f
    · obtain ⟨i, hi⟩ := h
      have c1 : cm (nxt wt) g = false := by
        refine cm_false.mpr ?_
        rintro ⟨_, _, hle⟩
        have := hle i
        rw [hi] at this
        exact hgf (Int.le_antisymm this (hmin g hg))
      have c2 : ∀ i g, g ≠ f → it (nxt wt) i g = f → ∃ j, it (nxt (rt f wt)) j g = 5 := by
        intro i
        induction i with
        | zero => intro g hg e; exact absurd e hg
        | succ i ih =>
          intro g hg e
          by_cases h1 : nxt wt g = f
          · exact ⟨1, by show nxt (rt f wt) g = 5; rw [hF, if_pos h1]⟩
          · obtain ⟨j, hj⟩ := ih (nxt wt g) h1 e
            exact ⟨j + 1, by show it _ j (nxt (rt f wt) g) = 5; rw [hF, if_neg h1]; exact hj⟩
      obtain ⟨j, hj⟩ := c2 i g hgf hi
      rw [c1]
      refine cm_false.mpr ?_
      rintro ⟨_, _, hle⟩
      have h1 := hle j
      have h2 := h5 g hg
      omega
    · refine cm_congr fun i => ?_
      induction i with
      | zero => rfl
      | succ i ih =>
        rw [it_succ, it_succ, ih, hF, if_neg]
        intro e
        exact h ⟨i + 1, by rw [it_succ]; exact e⟩
  rw [rt_keys]
  obtain ⟨a, b, e⟩ := List.append_of_mem hf
  have hnd := hn
  rw [e] at hnd
  have hnf : ∀ g, g ∈ a ∨ g ∈ b → g ≠ f := by
    rintro g hg rfl
    rw [List.nodup_append] at hnd
    rcases hg with hg | hg
    · exact hnd.2.2 _ hg _ (.head _) rfl
    · exact (List.nodup_cons.mp hnd.2.1).1 hg
  rw [e, rings_app, rings_app, rings_cons, rings_cons, if_pos cf, if_neg (by rw [cf']; simp)]
  rw [rings_congr (ks := a) (F := nxt wt) (G := nxt (rt f wt)) fun g hg => cg g (by rw [e]; exact List.mem_append.mpr (.inl hg)) (hnf g (.inl hg))]
  rw [rings_congr (ks := b) (F := nxt wt) (G := nxt (rt f wt)) fun g hg => cg g (by rw [e]; exact List.mem_append.mpr (.inr (.tail _ hg))) (hnf g (.inr hg))]
  omega
/-- a table of pairs and its rows that stand for something -/
theorem rings_real (ps : List (Int × Int)) (hn : (ps.map (·.1)).Nodup) : ringsIn (nxt (ps.filter fun p => !decide (p.1 = p.2))) ((ps.filter fun p => !decide (p.1 = p.2)).map (·.1)) = rounds ps := by
  have hF : ∀ x, nxt (ps.filter fun p => !decide (p.1 = p.2)) x = nxt ps x := by
    intro x
    by_cases hk : x ∈ ps.map (·.1)
    · have hm := nxt_mem hk
      by_cases e : nxt ps x = x
      · rw [e]
        refine nxt_out fun h => ?_
        obtain ⟨p, hp, ep⟩ := List.mem_map.mp h
        obtain ⟨h1, h2⟩ := List.mem_filter.mp hp
        have : kdfLook ps x x = p.2 := look_of_mem hn x (by rw [← ep]; exact h1)
        have e' : kdfLook ps x x = x := e
        rw [this] at e'
        rw [ep, e'] at h2
        simp at h2
      · unfold nxt
        refine look_of_mem ?_ x (List.mem_filter.mpr ⟨hm, ?_⟩)
        · exact List.Sublist.nodup (List.Sublist.map _ List.filter_sublist) hn
        · have : ¬ x = kdfLook ps x x := fun q => e q.symm
          simpa using this
    · rw [nxt_out hk]
      refine nxt_out fun h => hk ?_
      obtain ⟨p, hp, ep⟩ := List.mem_map.mp h
      exact List.mem_map.mpr ⟨p, (List.mem_filter.mp hp).1, ep⟩
  have hFF : nxt (ps.filter fun p => !decide (p.1 = p.2)) = nxt ps := funext hF
  rw [hFF]
  unfold rounds
  have key : ∀ qs : List (Int × Int), (∀ p ∈ qs, p ∈ ps) → ringsIn (nxt ps) ((qs.filter fun p => !decide (p.1 = p.2)).map (·.1)) = ringsIn (nxt ps) (qs.map (·.1)) := by
    intro qs
    induction qs with
    | nil => intro _; rfl
    | cons p r ih =>
      intro h
      have hr := ih fun q hq => h q (.tail _ hq)
      by_cases e : p.1 = p.2
      · rw [List.filter_cons_of_neg (by simp [e]), List.map_cons, rings_cons, hr, if_neg]
        · omega
        · intro hc
          have := (cm_true.mp hc).1
          exact this ((look_of_mem hn _ (h p (.head _))).trans e.symm)
      · rw [List.filter_cons_of_pos (by simp [e]), List.map_cons, List.map_cons, rings_cons, rings_cons, hr]
  exact key ps fun _ h => h
end Mine
end
section
open PySem PySem.W PySem.Calls PyProof.Rows PyProof.Rows.LCg
namespace Mine
abbrev names : List Int := places ++ [9, 18, 5]
theorem places_range {x : Int} (h : x ∈ places) : 7 ≤ x ∧ x < 32 := by
  simp only [places, List.mem_cons, List.not_mem_nil, or_false] at h
  omega
theorem names_range {x : Int} (h : x ∈ names) : 5 ≤ x ∧ x < 32 := by
  simp only [names, places, List.cons_append, List.nil_append, List.mem_cons, List.not_mem_nil, or_false] at h
  omega
theorem places_names {x : Int} (h : x ∈ places) : x ∈ names := List.mem_append.mpr (.inl h)
theorem origins_names {x : Int} (h : x ∈ places ++ [9, 18]) : x ∈ names := by
  rcases List.mem_append.mp h with h | h
  · exact List.mem_append.mpr (.inl h)
  · refine List.mem_append.mpr (.inr ?_)
    rcases List.mem_cons.mp h with h | h
    · rw [h]; exact .head _
    · rw [List.mem_singleton.mp h]; exact .tail _ (.head _)
theorem five_names : (5 : Int) ∈ names := List.mem_append.mpr (.inr (.tail _ (.tail _ (.head _))))
theorem getD_set (l : List Int) (i j : Nat) (v : Int) (hi : i < l.length) : (l.set i v).getD j 0 = if i = j then v else l.getD j 0 := by
  rw [List.getD_eq_getElem?_getD, List.getElem?_set, List.getD_eq_getElem?_getD]
  by_cases h : i = j
  · subst h; simp [hi]
  · rw [if_neg h, if_neg h]
theorem inTurn_snoc (mv : List (Int × Int)) (t o : Int) (c : List Int) : inTurn (mv ++ [(t, o)]) c = (inTurn mv c).set t.toNat ((inTurn mv c).getD o.toNat 0) := by
  unfold inTurn; rw [List.foldl_append]; rfl
theorem cells0_len : cells0.length = 32 := by decide
theorem cells0_get : ∀ n : Nat, n < 32 → cells0.getD n 0 = 100 + (n : Int) := by decide
theorem cells0_at {x : Int} (h0 : 0 ≤ x) (h1 : x < 32) : cells0.getD x.toNat 0 = 100 + x := by
  rw [cells0_get _ (by omega)]; omega
theorem once_get (ps : List (Int × Int)) : ∀ c : List Int, c.length = 32 → (ps.map (·.1)).Nodup → (∀ p ∈ ps, 0 ≤ p.1 ∧ p.1 < 32) →
    (∀ p ∈ ps, (atOnce ps c).getD p.1.toNat 0 = 100 + p.2) ∧ (∀ x : Int, 0 ≤ x → x ∉ ps.map (·.1) → (atOnce ps c).getD x.toNat 0 = c.getD x.toNat 0) := by
  induction ps with
  | nil => intro c _ _ _; exact ⟨fun _ h => (nomatch h), fun _ _ _ => rfl⟩
  | cons q r ih =>
    intro c hc hn hr
    rw [List.map_cons, List.nodup_cons] at hn
    have hq := hr q (.head _)
    obtain ⟨h1, h2⟩ := ih (c.set q.1.toNat (100 + q.2)) (by rw [List.length_set]; exact hc) hn.2 fun p hp => hr p (.tail _ hp)
    have e : atOnce (q :: r) c = atOnce r (c.set q.1.toNat (100 + q.2)) := rfl
    refine ⟨fun p hp => ?_, fun x hx hnx => ?_⟩
    · rcases List.mem_cons.mp hp with rfl | hp
      · rw [e, h2 _ hq.1 hn.1, getD_set _ _ _ _ (by omega), if_pos rfl]
      · rw [e, h1 p hp]
    · rw [e, h2 x hx fun h => hnx (.tail _ h), getD_set _ _ _ _ (by omega), if_neg]
      intro q2
      exact hnx (by
        have : q.1 = x := by omega
        rw [← this]; exact .head _)
/-- what the moves do -/
structure MovesOk (ps mv : List (Int × Int)) : Prop where
  cells : ∀ x : Int, 0 ≤ x → x < 32 → x ≠ 5 → (inTurn mv cells0).getD x.toNat 0 = (atOnce ps cells0).getD x.toNat 0
  apart : ∀ p ∈ mv, p.1 ≠ p.2
  len : mv.length = (ps.filter fun p => !decide (p.1 = p.2)).length + rounds ps
  five : (mv.filter fun p => decide (p.1 = 5)).length = rounds ps
  range : ∀ p ∈ mv, (0 ≤ p.1 ∧ p.1 < 32) ∧ (0 ≤ p.2 ∧ p.2 < 32)
  few : mv.length ≤ 24
/-- half way -/
structure Mid (ps wt rd : List (Int × Int)) (ready : List Int) (mv : List (Int × Int)) : Prop where
  keys : (wt.map (·.1)).Nodup
  count : ∀ x, kdfLook rd x 0 = (cnt wt x : Int)
  rnd : ready.Nodup
  rdy : ∀ t, t ∈ ready ↔ t ∈ wt.map (·.1) ∧ cnt wt t = 0
  apart : ∀ p ∈ wt, p.1 ≠ p.2
  goals : ∀ p ∈ wt, p.1 ∈ places
  reads : ∀ p ∈ wt, p.2 ∈ names
  small : Small names rd
  done : ∀ x : Int, 0 ≤ x → x < 32 → x ≠ 5 → x ∉ wt.map (·.1) → (inTurn mv cells0).getD x.toNat 0 = (atOnce ps cells0).getD x.toNat 0
  hold : ∀ p ∈ wt, (inTurn mv cells0).getD p.2.toNat 0 = (atOnce ps cells0).getD p.1.toNat 0
  mapart : ∀ p ∈ mv, p.1 ≠ p.2
  mrange : ∀ p ∈ mv, p.1 ∈ names ∧ p.2 ∈ names
  tally : mv.length + wt.length = (ps.filter fun p => !decide (p.1 = p.2)).length + (mv.filter fun p => decide (p.1 = 5)).length
  rings : (mv.filter fun p => decide (p.1 = 5)).length + ringsIn (nxt wt) (wt.map (·.1)) = rounds ps
theorem rounds_le (ps : List (Int × Int)) : rounds ps ≤ ps.length := by
  unfold rounds ringsIn
  have := List.length_filter_le (cm (nxt ps)) (ps.map (·.1))
  rwa [List.length_map] at this
theorem Mid.wlen {ps wt rd : List (Int × Int)} {ready : List Int} {mv : List (Int × Int)} (M : Mid ps wt rd ready mv) : wt.length ≤ 12 := by
  have := nodup_le M.keys (k := places) fun x hx => by
    obtain ⟨p, hp, e⟩ := List.mem_map.mp hx
    exact e ▸ M.goals p hp
  rwa [List.length_map] at this
theorem Mid.mlen {ps wt rd : List (Int × Int)} {ready : List Int} {mv : List (Int × Int)} (M : Mid ps wt rd ready mv) (hf : ps.length ≤ 12) : mv.length + wt.length ≤ 24 := by
  have a := M.tally
  have b := M.rings
  have c := rounds_le ps
  have d := List.length_filter_le (fun p : Int × Int => !decide (p.1 = p.2)) ps
  omega
theorem Mid.rlen {ps wt rd : List (Int × Int)} {ready : List Int} {mv : List (Int × Int)} (M : Mid ps wt rd ready mv) : rd.length ≤ 15 := M.small.len
theorem Mid.ylen {ps wt rd : List (Int × Int)} {ready : List Int} {mv : List (Int × Int)} (M : Mid ps wt rd ready mv) : ready.length ≤ 12 := by
  have := nodup_le M.rnd (k := wt.map (·.1)) fun x hx => ((M.rdy x).mp hx).1
  rw [List.length_map] at this
  exact Nat.le_trans this M.wlen
theorem Mid.fin {ps rd : List (Int × Int)} {ready : List Int} {mv : List (Int × Int)} (M : Mid ps [] rd ready mv) (hf : ps.length ≤ 12) : MovesOk ps mv where
  cells := fun x h0 h1 h5 => M.done x h0 h1 h5 (by simp)
  apart := M.mapart
  len := by
    have a := M.tally
    have b := M.rings
    have c : ringsIn (nxt []) (([] : List (Int × Int)).map (·.1)) = 0 := rfl
    rw [c] at b
    rw [List.length_nil] at a
    omega
  five := by
    have b := M.rings
    have c : ringsIn (nxt []) (([] : List (Int × Int)).map (·.1)) = 0 := rfl
    rw [c] at b
    omega
  range := fun p hp => by
    obtain ⟨a, b⟩ := M.mrange p hp
    have := names_range a
    have := names_range b
    omega
  few := by have := M.mlen hf; rw [List.length_nil] at this; omega
theorem filter_snoc (mv : List (Int × Int)) (t o : Int) : ((mv ++ [(t, o)]).filter fun p => decide (p.1 = 5)).length = (mv.filter fun p => decide (p.1 = 5)).length + (if t = 5 then 1 else 0) := by
  rw [List.filter_append, List.length_append]
  by_cases h : t = 5
  · simp [h]
  · simp [h]
/-- one target done -/
theorem Mid.step {ps wt rd : List (Int × Int)} {r : List Int} {t : Int} {mv : List (Int × Int)} (M : Mid ps wt rd (r ++ [t]) mv) :
    t ∈ wt.map (·.1) ∧ kdfHas rd (kdfLook wt t 0) = true ∧ kdfLook wt t 0 ∈ names ∧
    ∀ ready', (if kdfLook rd (kdfLook wt t 0) 0 - 1 = 0 ∧ kdfHas (kdyDel wt t) (kdfLook wt t 0) = true then ready' = r ++ [kdfLook wt t 0] else ready' = r) →
      Mid ps (kdyDel wt t) (kdfPut rd (kdfLook wt t 0) (kdfLook rd (kdfLook wt t 0) 0 - 1)) ready' (mv ++ [(t, kdfLook wt t 0)]) ∧ (kdyDel wt t).length + 1 = wt.length := by
  obtain ⟨htk, ht0⟩ := (M.rdy t).mp (List.mem_append.mpr (.inr (.head _)))
  obtain ⟨a, b, e1, e2, ha, hb⟩ := del_split M.keys htk
  generalize ho : kdfLook wt t 0 = o at *
  have hmem : (t, o) ∈ wt := by rw [e1]; exact List.mem_append.mpr (.inr (.head _))
  have hto : t ≠ o := M.apart _ hmem
  have htp : t ∈ places := M.goals _ hmem
  have hon : o ∈ names := M.reads _ hmem
  have hcnt : ∀ x, cnt wt x = cnt (kdyDel wt t) x + (if o = x then 1 else 0) := by
    intro x
    rw [e2, e1, cnt_app, cnt_cons, cnt_app]
    show cnt a x + ((if o = x then 1 else 0) + cnt b x) = _
    omega
  have hco : 0 < cnt wt o := cnt_pos hmem
  have hkeys : wt.map (·.1) = a.map (·.1) ++ t :: b.map (·.1) := by
    have := congrArg (List.map (·.1)) e1
    rwa [List.map_append, List.map_cons] at this
  have hkd : (kdyDel wt t).map (·.1) = a.map (·.1) ++ b.map (·.1) := by rw [e2, List.map_append]
  have hsub : ∀ p ∈ kdyDel wt t, p ∈ wt := by
    intro p hp
    rw [e2] at hp; rw [e1]
    rcases List.mem_append.mp hp with hp | hp
    · exact List.mem_append.mpr (.inl hp)
    · exact List.mem_append.mpr (.inr (.tail _ hp))
  have hkey : ∀ x, x ∈ (kdyDel wt t).map (·.1) ↔ x ∈ wt.map (·.1) ∧ x ≠ t := by
    intro x
    rw [hkd, hkeys, List.mem_append, List.mem_append, List.mem_cons]
    constructor
    · rintro (h | h)
      · exact ⟨.inl h, fun e => ha (e ▸ h)⟩
      · exact ⟨.inr (.inr h), fun e => hb (e ▸ h)⟩
    · rintro ⟨h | h | h, hne⟩
      · exact .inl h
      · exact absurd h hne
      · exact .inr h
  have hrn := M.rnd
  rw [List.nodup_append] at hrn
  have htr : t ∉ r := fun h => hrn.2.2 t h t (.head _) rfl
  have hor : o ∉ r := fun h => by
    have := ((M.rdy o).mp (List.mem_append.mpr (.inl h))).2
    omega
  have hrdy0 : ∀ x, x ∈ r ↔ x ∈ (kdyDel wt t).map (·.1) ∧ cnt wt x = 0 := by
    intro x
    rw [hkey]
    constructor
    · intro h
      obtain ⟨h1, h2⟩ := (M.rdy x).mp (List.mem_append.mpr (.inl h))
      exact ⟨⟨h1, fun e => htr (e ▸ h)⟩, h2⟩
    · rintro ⟨⟨h1, h3⟩, h2⟩
      rcases List.mem_append.mp ((M.rdy x).mpr ⟨h1, h2⟩) with h | h
      · exact h
      · exact absurd (List.mem_singleton.mp h) h3
  refine ⟨htk, has_look (by rw [M.count]; omega), hon, fun ready' hr' => ⟨?_, ?_⟩⟩
  · have clen : (inTurn mv cells0).length = 32 := by rw [inTurn_len]; exact cells0_len
    have tr := places_range htp
    refine
      { keys := ?_, count := ?_, rnd := ?_, rdy := ?_, apart := fun p hp => M.apart p (hsub p hp), goals := fun p hp => M.goals p (hsub p hp), reads := fun p hp => M.reads p (hsub p hp), small := M.small.put _ hon,
        done := ?_, hold := ?_, mapart := ?_, mrange := ?_, tally := ?_, rings := ?_ }
    · have := M.keys
      rw [hkeys, List.nodup_append] at this
      rw [hkd, List.nodup_append]
      exact ⟨this.1, (List.nodup_cons.mp this.2.1).2, fun x hx y hy => this.2.2 x hx y (.tail _ hy)⟩
    · intro x
      rw [look_put, M.count, M.count, hcnt x, hcnt o, if_pos rfl]
      by_cases e : x = o
      · rw [if_pos e, e]; omega
      · rw [if_neg e, if_neg fun q => e q.symm]; omega
    · split at hr'
      · rw [hr']
        exact List.nodup_append.mpr ⟨hrn.1, by simp, fun x hx y hy e => hor (by rw [← List.mem_singleton.mp hy, ← e]; exact hx)⟩
      · rw [hr']; exact hrn.1
    · intro x
      have hx := hcnt x
      split at hr'
      · rename_i hc
        obtain ⟨c1, c2⟩ := hc
        rw [M.count] at c1
        rw [hr', List.mem_append, List.mem_singleton, hrdy0]
        constructor
        · rintro (⟨h1, h2⟩ | rfl)
          · exact ⟨h1, by omega⟩
          · refine ⟨has_iff.mp c2, ?_⟩
            rw [if_pos rfl] at hx
            omega
        · rintro ⟨h1, h2⟩
          by_cases e : o = x
          · exact .inr e.symm
          · rw [if_neg e] at hx
            exact .inl ⟨h1, by omega⟩
      · rename_i hc
        rw [hr', hrdy0]
        constructor
        · rintro ⟨h1, h2⟩
          exact ⟨h1, by omega⟩
        · rintro ⟨h1, h2⟩
          refine ⟨h1, ?_⟩
          by_cases e : o = x
          · exfalso
            refine hc ⟨?_, has_iff.mpr (by rw [e]; exact h1)⟩
            rw [if_pos e] at hx
            rw [M.count, e, hx, h2]
            omega
          · rw [if_neg e] at hx
            omega
    · intro x h0 h1 h5 hnx
      rw [inTurn_snoc, getD_set _ _ _ _ (by omega)]
      by_cases e : x = t
      · rw [e, if_pos rfl]
        exact M.hold _ hmem
      · rw [if_neg (by omega)]
        exact M.done x h0 h1 h5 fun h => hnx ((hkey x).mpr ⟨h, e⟩)
    · intro p hp
      have hpw := hsub p hp
      have pr := names_range (M.reads p hpw)
      rw [inTurn_snoc, getD_set _ _ _ _ (by omega), if_neg]
      · exact M.hold p hpw
      · intro q
        have : p.2 = t := by omega
        exact cnt_zero ht0 p hpw this
    · intro p hp
      rcases List.mem_append.mp hp with hp | hp
      · exact M.mapart p hp
      · rw [List.mem_singleton.mp hp]; exact hto
    · intro p hp
      rcases List.mem_append.mp hp with hp | hp
      · exact M.mrange p hp
      · rw [List.mem_singleton.mp hp]; exact ⟨places_names htp, hon⟩
    · have := M.tally
      have hl : wt.length = (kdyDel wt t).length + 1 := by rw [e2]; rw [e1]; simp only [List.length_append, List.length_cons]; omega
      rw [List.length_append, filter_snoc, if_neg (by omega : ¬ t = 5), List.length_singleton]
      omega
    · rw [filter_snoc, if_neg (by omega : ¬ t = 5), rings_del M.keys htk ht0]
      exact M.rings
  · rw [e2]; rw [e1]; simp only [List.length_append, List.length_cons]; omega
/-- a ring opened -/
theorem Mid.brk {ps wt rd : List (Int × Int)} {f : Int} {mv : List (Int × Int)} (M : Mid ps wt rd [] mv) (hf : f ∈ wt.map (·.1)) (hmin : ∀ x ∈ wt.map (·.1), f ≤ x) :
    kdfHas rd f = true ∧ f ∈ names ∧ Mid ps (rt f wt) (kdfPut (kdfPut rd 5 (kdfLook rd 5 0 + kdfLook rd f 0)) f 0) [f] (mv ++ [(5, f)]) := by
  have hall : ∀ t ∈ wt.map (·.1), cnt wt t ≠ 0 := fun t ht e => by
    have := (M.rdy t).mpr ⟨ht, e⟩
    cases this
  have hpl : ∀ t ∈ wt.map (·.1), t ∈ places := fun t ht => by
    obtain ⟨p, hp, e⟩ := List.mem_map.mp ht
    exact e ▸ M.goals p hp
  have hfp := hpl f hf
  have fr := places_range hfp
  have hf5 : f ≠ 5 := by omega
  have hfn := places_names hfp
  obtain ⟨hs, hsub⟩ := all_read M.keys hall
  have h5r : ∀ p ∈ wt, p.2 ≠ 5 := fun p hp e => by
    have := places_range (hpl _ (hsub p.2 (List.mem_map_of_mem hp)))
    omega
  have h5c : cnt wt 5 = 0 := by
    rcases Nat.eq_zero_or_pos (cnt wt 5) with h | h
    · exact h
    · obtain ⟨t, ht⟩ := cnt_ex h
      exact absurd rfl (h5r _ ht)
  have hrow : ∀ p ∈ rt f wt, ∃ q ∈ wt, p.1 = q.1 ∧ (q.2 = f ∧ p.2 = 5 ∨ q.2 ≠ f ∧ p.2 = q.2) := by
    intro p hp
    obtain ⟨q, hq, e⟩ := List.mem_map.mp hp
    refine ⟨q, hq, ?_⟩
    by_cases h : q.2 = f
    · rw [if_pos h] at e
      rw [← e]; exact ⟨rfl, .inl ⟨h, rfl⟩⟩
    · rw [if_neg h] at e
      rw [← e]; exact ⟨rfl, .inr ⟨h, rfl⟩⟩
  refine ⟨has_look (by rw [M.count]; have := hall f hf; omega), hfn, ?_⟩
  have clen : (inTurn mv cells0).length = 32 := by rw [inTurn_len]; exact cells0_len
  refine
    { keys := by rw [rt_keys]; exact M.keys, count := ?_, rnd := by simp, rdy := ?_, apart := ?_, goals := ?_, reads := ?_, small := (M.small.put _ five_names).put _ hfn,
      done := ?_, hold := ?_, mapart := ?_, mrange := ?_, tally := ?_, rings := ?_ }
  · intro x
    rw [look_put, look_put, M.count, M.count, M.count, rt_cnt hf5]
    by_cases e : x = f
    · rw [if_pos e, if_pos e]; rfl
    · rw [if_neg e, if_neg e]
      by_cases e5 : x = 5
      · rw [if_pos e5, if_pos e5]; omega
      · rw [if_neg e5, if_neg e5]
  · intro x
    rw [rt_keys, rt_cnt hf5, List.mem_singleton]
    constructor
    · rintro rfl; exact ⟨hf, by rw [if_pos rfl]⟩
    · rintro ⟨h1, h2⟩
      by_cases e : x = f
      · exact e
      · rw [if_neg e] at h2
        have h5 : x ≠ 5 := by have := places_range (hpl x h1); omega
        rw [if_neg h5] at h2
        exact absurd h2 (hall x h1)
  · intro p hp
    obtain ⟨q, hq, e1, h⟩ := hrow p hp
    have := places_range (M.goals q hq)
    rcases h with ⟨_, h⟩ | ⟨_, h⟩
    · rw [e1, h]; omega
    · rw [e1, h]; exact M.apart q hq
  · intro p hp
    obtain ⟨q, hq, e1, _⟩ := hrow p hp
    rw [e1]; exact M.goals q hq
  · intro p hp
    obtain ⟨q, hq, _, h⟩ := hrow p hp
    rcases h with ⟨_, h⟩ | ⟨_, h⟩
    · rw [h]; exact five_names
    · rw [h]; exact M.reads q hq
  · intro x h0 h1 h5 hnx
    rw [rt_keys] at hnx
    rw [inTurn_snoc, getD_set _ _ _ _ (by rw [clen]; decide), if_neg (by omega)]
    exact M.done x h0 h1 h5 hnx
  · intro p hp
    obtain ⟨q, hq, e1, h⟩ := hrow p hp
    rw [inTurn_snoc, getD_set _ _ _ _ (by rw [clen]; decide), e1]
    have hh := M.hold q hq
    rcases h with ⟨hqf, h⟩ | ⟨_, h⟩
    · rw [h, if_pos rfl, ← hqf]; exact hh
    · have := names_range (M.reads q hq)
      have := h5r q hq
      rw [h, if_neg (by omega)]; exact hh
  · intro p hp
    rcases List.mem_append.mp hp with hp | hp
    · exact M.mapart p hp
    · rw [List.mem_singleton.mp hp]; exact fun e => hf5 e.symm
  · intro p hp
    rcases List.mem_append.mp hp with hp | hp
    · exact M.mrange p hp
    · rw [List.mem_singleton.mp hp]; exact ⟨five_names, hfn⟩
  · have := M.tally
    have hl : (rt f wt).length = wt.length := by unfold rt; rw [List.length_map]
    rw [List.length_append, filter_snoc, if_pos rfl, List.length_singleton, hl]
    omega
  · rw [filter_snoc, if_pos rfl]
    have := rings_rt M.keys M.apart (fun x hx => by have := places_range (hpl x hx); omega) hall hf hmin
    have := M.rings
    omega
/-- the readers told off -/
def tell (c qs : List (Int × Int)) : List (Int × Int) := qs.foldl (fun c p => kdfPut c p.2 (kdfLook c p.2 0 + 1)) c
theorem tell_count (qs : List (Int × Int)) : ∀ c : List (Int × Int), (∀ x, kdfLook (tell c qs) x 0 = kdfLook c x 0 + (cnt qs x : Int)) := by
  induction qs with
  | nil => intro c x; show kdfLook c x 0 = kdfLook c x 0 + ((0 : Nat) : Int); omega
  | cons p r ih =>
    intro c x
    show kdfLook (tell (kdfPut c p.2 (kdfLook c p.2 0 + 1)) r) x 0 = _
    rw [ih, look_put, cnt_cons]
    by_cases e : x = p.2
    · rw [if_pos e, if_pos e.symm, e]; omega
    · rw [if_neg e, if_neg fun q => e q.symm]; omega
theorem tell_small (qs : List (Int × Int)) : ∀ c : List (Int × Int), Small names c → (∀ p ∈ qs, p.2 ∈ names) → Small names (tell c qs) := by
  induction qs with
  | nil => intro c h _; exact h
  | cons p r ih => intro c h hq; exact ih _ (h.put _ (hq p (.head _))) fun q h' => hq q (.tail _ h')
theorem Mid.start {ps : List (Int × Int)} {ns : List Int} (G : GoodPairs ps) (hp : ns.Perm ((ps.filter fun p => !decide (p.1 = p.2)).map (·.1))) :
    Mid ps (ps.filter fun p => !decide (p.1 = p.2)) (tell [] (ps.filter fun p => !decide (p.1 = p.2))) (ns.filter fun t => decide (kdfLook (tell [] (ps.filter fun p => !decide (p.1 = p.2))) t 0 = 0)) [] := by
  have hsub : ∀ p ∈ ps.filter fun p => !decide (p.1 = p.2), p ∈ ps ∧ p.1 ≠ p.2 := fun p hp => by
    obtain ⟨h1, h2⟩ := List.mem_filter.mp hp
    exact ⟨h1, by simpa using h2⟩
  have hk : ((ps.filter fun p => !decide (p.1 = p.2)).map (·.1)).Nodup := List.Sublist.nodup (List.Sublist.map _ List.filter_sublist) G.nodup
  have hcount : ∀ x, kdfLook (tell [] (ps.filter fun p => !decide (p.1 = p.2))) x 0 = (cnt (ps.filter fun p => !decide (p.1 = p.2)) x : Int) := fun x => by
    rw [tell_count]
    show (0 : Int) + _ = _
    omega
  have hnames : ∀ p ∈ ps.filter fun p => !decide (p.1 = p.2), p.2 ∈ names := fun p hp => origins_names (G.origins p (hsub p hp).1)
  obtain ⟨o1, o2⟩ := once_get ps cells0 cells0_len G.nodup fun p hp => by have := places_range (G.goals p hp); omega
  refine
    { keys := hk, count := hcount, rnd := List.Sublist.nodup List.filter_sublist ((hp.nodup_iff).mpr hk), rdy := ?_, apart := fun p hp => (hsub p hp).2, goals := fun p hp => G.goals p (hsub p hp).1, reads := hnames,
      small := tell_small _ _ ⟨.nil, fun _ h => (nomatch h)⟩ hnames, done := ?_, hold := ?_, mapart := fun _ h => (nomatch h), mrange := fun _ h => (nomatch h), tally := by simp, rings := ?_ }
  · intro t
    rw [List.mem_filter, (hp.mem_iff), decide_eq_true_iff, hcount]
    constructor
    · rintro ⟨a, b⟩; exact ⟨a, by omega⟩
    · rintro ⟨a, b⟩; exact ⟨a, by omega⟩
  · intro x h0 h1 h5 hnx
    show cells0.getD x.toNat 0 = _
    by_cases hx : x ∈ ps.map (·.1)
    · obtain ⟨p, hp, e⟩ := List.mem_map.mp hx
      have e2 : p.1 = p.2 := by
        refine Classical.byContradiction fun hne => hnx (List.mem_map.mpr ⟨p, List.mem_filter.mpr ⟨hp, by simpa using hne⟩, e⟩)
      have := o1 p hp
      rw [← e, this, cells0_at (by omega) (by omega), e2]
    · rw [o2 x h0 hx]
  · intro p hp
    obtain ⟨h1, _⟩ := hsub p hp
    show cells0.getD p.2.toNat 0 = _
    have := names_range (hnames p hp)
    rw [o1 p h1, cells0_at (by omega) (by omega)]
  · show 0 + _ = _
    rw [rings_real ps G.nodup]; omega
/-- the rows that stand for something, the first i -/
def real (ps : List (Int × Int)) : List (Int × Int) := ps.filter fun p => !decide (p.1 = p.2)
theorem real_yes {ps : List (Int × Int)} {i : Nat} {a b : Int} (h : ps[i]? = some (a, b)) (hab : a ≠ b) : real (ps.take (i + 1)) = real (ps.take i) ++ [(a, b)] := by
  unfold real
  rw [List.take_add_one, h, List.filter_append]
  congr 1
  show List.filter _ [(a, b)] = _
  rw [List.filter_cons_of_pos (by simpa using hab)]
  rfl
theorem real_no {ps : List (Int × Int)} {i : Nat} {a b : Int} (h : ps[i]? = some (a, b)) (hab : a = b) : real (ps.take (i + 1)) = real (ps.take i) := by
  unfold real
  rw [List.take_add_one, h, List.filter_append]
  show _ ++ List.filter _ [(a, b)] = _
  rw [List.filter_cons_of_neg (by simpa using hab), List.filter_nil, List.append_nil]
theorem real_fresh {ps : List (Int × Int)} (hn : (ps.map (·.1)).Nodup) {i : Nat} {a b : Int} (h : ps[i]? = some (a, b)) : a ∉ (real (ps.take i)).map (·.1) := by
  intro hm
  obtain ⟨p, hp, e⟩ := List.mem_map.mp hm
  have hp' := (List.mem_filter.mp hp).1
  obtain ⟨j, hj, ej⟩ := List.getElem_of_mem hp'
  rw [List.length_take] at hj
  have hjp : ps[j]? = some p := by
    rw [List.getElem_take] at ej
    rw [List.getElem?_eq_getElem (by omega), ej]
  have hi := (List.getElem?_eq_some_iff.mp h).1
  have e1 : (ps.map (·.1))[j]? = some a := by rw [List.getElem?_map, hjp]; simp [e]
  have e2 : (ps.map (·.1))[i]? = some a := by rw [List.getElem?_map, h]; rfl
  have := (List.getElem?_inj (l := ps.map (·.1)) (i := j) (j := i) (by rw [List.length_map]; omega) hn).mp (by rw [e1, e2])
  omega
theorem real_len (ps : List (Int × Int)) (i : Nat) (h : ps.length ≤ 12) : (real (ps.take i)).length ≤ 12 := by
  have := List.length_filter_le (fun p : Int × Int => !decide (p.1 = p.2)) (ps.take i)
  rw [List.length_take] at this
  unfold real
  omega
theorem tell_snoc (q : List (Int × Int)) (a b : Int) : tell [] (q ++ [(a, b)]) = kdfPut (tell [] q) b (kdfLook (tell [] q) b 0 + 1) := by
  unfold tell; rw [List.foldl_append]; rfl
theorem tell_len {ps : List (Int × Int)} (G : GoodPairs ps) (i : Nat) : (tell [] (real (ps.take i))).length ≤ 15 := by
  have h0 : Small names [] := ⟨List.Pairwise.nil, fun _ h => (nomatch h)⟩
  exact (tell_small (real (ps.take i)) [] h0 fun p hp => origins_names (G.origins p (List.mem_of_mem_take (List.mem_filter.mp hp).1))).len
theorem ft_yes {p : Int → Bool} {ks : List Int} {i : Nat} {x : Int} (h : ks[i]? = some x) (y : p x = true) : (ks.take (i + 1)).filter p = (ks.take i).filter p ++ [x] := by
  rw [List.take_add_one, h, List.filter_append]
  show _ ++ List.filter p [x] = _
  rw [List.filter_cons_of_pos y, List.filter_nil]
theorem ft_no {p : Int → Bool} {ks : List Int} {i : Nat} {x : Int} (h : ks[i]? = some x) (y : p x = false) : (ks.take (i + 1)).filter p = (ks.take i).filter p := by
  rw [List.take_add_one, h, List.filter_append]
  show _ ++ List.filter p [x] = _
  rw [List.filter_cons_of_neg (by simp [y]), List.filter_nil, List.append_nil]
theorem ints_snoc_inv {us : List Value} {ls : List Int} {t : Int} (h : IntsAre us (ls ++ [t])) : ∃ p tt, us = p ++ [.int t tt] ∧ IntsAre p ls := by
  induction ls generalizing us with
  | nil =>
    cases h with
    | cons i u r =>
      cases r
      exact ⟨[], u, rfl, .nil⟩
  | cons x ls ih =>
    cases h with
    | cons i u r =>
      obtain ⟨p, tt, e, hp⟩ := ih r
      exact ⟨.int x u :: p, tt, by rw [e]; rfl, .cons x u hp⟩
theorem nodup_take {ks : List Int} (hn : ks.Nodup) {i : Nat} {t : Int} (h : ks[i]? = some t) : t ∉ ks.take i := by
  intro hm
  obtain ⟨j, hj, ej⟩ := List.getElem_of_mem hm
  rw [List.length_take] at hj
  have hi := (List.getElem?_eq_some_iff.mp h).1
  have e1 : ks[j]? = some t := by
    rw [List.getElem_take] at ej
    rw [List.getElem?_eq_getElem (by omega), ej]
  have := (List.getElem?_inj (l := ks) (i := j) (j := i) (by omega) hn).mp (by rw [e1, h])
  omega
/-- readers sent elsewhere, of the named rows alone -/
def rtAt (f : Int) (ks : List Int) (wt : List (Int × Int)) : List (Int × Int) := wt.map fun p => if p.2 = f ∧ p.1 ∈ ks then (p.1, 5) else p
theorem rtAt_keys (f : Int) (ks : List Int) (wt : List (Int × Int)) : (rtAt f ks wt).map (·.1) = wt.map (·.1) := by
  unfold rtAt
  rw [List.map_map]
  refine List.map_congr_left fun p _ => ?_
  show (if p.2 = f ∧ p.1 ∈ ks then (p.1, (5 : Int)) else p).1 = p.1
  split <;> rfl
theorem rtAt_len (f : Int) (ks : List Int) (wt : List (Int × Int)) : (rtAt f ks wt).length = wt.length := by unfold rtAt; rw [List.length_map]
theorem rtAt_nil (f : Int) (wt : List (Int × Int)) : rtAt f [] wt = wt := by
  unfold rtAt
  have : (fun p : Int × Int => if p.2 = f ∧ p.1 ∈ ([] : List Int) then (p.1, (5 : Int)) else p) = id := by
    funext p; simp
  rw [this, List.map_id]
theorem rtAt_all {f : Int} {ks : List Int} {wt : List (Int × Int)} (h : ∀ p ∈ wt, p.1 ∈ ks) : rtAt f ks wt = rt f wt := by
  unfold rtAt rt
  refine List.map_congr_left fun p hp => ?_
  by_cases e : p.2 = f
  · rw [if_pos ⟨e, h p hp⟩, if_pos e]
  · rw [if_neg (fun q => e q.1), if_neg e]
theorem rtAt_look {f : Int} {ks : List Int} {wt : List (Int × Int)} {t : Int} (h : t ∉ ks) : kdfLook (rtAt f ks wt) t 0 = kdfLook wt t 0 := by
  induction wt with
  | nil => rfl
  | cons p r ih =>
    show kdfLook ((if p.2 = f ∧ p.1 ∈ ks then (p.1, (5 : Int)) else p) :: rtAt f ks r) t 0 = _
    rw [look_cons, look_cons, ih]
    have ep : (if p.2 = f ∧ p.1 ∈ ks then (p.1, (5 : Int)) else p).1 = p.1 := by split <;> rfl
    rw [ep]
    by_cases e : p.1 = t
    · rw [if_pos e, if_pos e, if_neg (fun q => h (by rw [← e]; exact q.2))]
    · rw [if_neg e, if_neg e]
theorem rtAt_yes {f : Int} {ks : List Int} {wt : List (Int × Int)} {t : Int} (hn : (wt.map (·.1)).Nodup) (hk : t ∈ wt.map (·.1)) (hl : kdfLook wt t 0 = f) : kdfPut (rtAt f ks wt) t 5 = rtAt f (ks ++ [t]) wt := by
  have e : kdfPut (rtAt f ks wt) t 5 = (rtAt f ks wt).map fun p => if decide (p.1 = t) then (p.1, 5) else p := if_pos (has_iff.mpr (by rw [rtAt_keys]; exact hk))
  rw [e]
  unfold rtAt
  rw [List.map_map]
  refine List.map_congr_left fun p hp => ?_
  show (if decide ((if p.2 = f ∧ p.1 ∈ ks then (p.1, (5 : Int)) else p).1 = t) = true then ((if p.2 = f ∧ p.1 ∈ ks then (p.1, (5 : Int)) else p).1, (5 : Int)) else (if p.2 = f ∧ p.1 ∈ ks then (p.1, (5 : Int)) else p)) = _
  have ep : (if p.2 = f ∧ p.1 ∈ ks then (p.1, (5 : Int)) else p).1 = p.1 := by split <;> rfl
  rw [ep]
  by_cases e1 : p.1 = t
  · have e2 : p.2 = f := by rw [← hl]; exact (look_of_mem hn 0 (by rw [← e1]; exact hp)).symm
    rw [if_pos (decide_eq_true e1), if_pos ⟨e2, List.mem_append.mpr (.inr (by rw [e1]; exact .head _))⟩]
  · rw [if_neg (by simpa using e1)]
    by_cases e2 : p.2 = f ∧ p.1 ∈ ks
    · rw [if_pos e2, if_pos ⟨e2.1, List.mem_append.mpr (.inl e2.2)⟩]
    · rw [if_neg e2, if_neg]
      rintro ⟨q1, q2⟩
      rcases List.mem_append.mp q2 with q2 | q2
      · exact e2 ⟨q1, q2⟩
      · exact e1 (List.mem_singleton.mp q2)
theorem rtAt_no {f : Int} {ks : List Int} {wt : List (Int × Int)} {t : Int} (hn : (wt.map (·.1)).Nodup) (hl : kdfLook wt t 0 ≠ f) : rtAt f ks wt = rtAt f (ks ++ [t]) wt := by
  unfold rtAt
  refine List.map_congr_left fun p hp => ?_
  by_cases e2 : p.2 = f ∧ p.1 ∈ ks
  · rw [if_pos e2, if_pos ⟨e2.1, List.mem_append.mpr (.inl e2.2)⟩]
  · rw [if_neg e2, if_neg]
    rintro ⟨q1, q2⟩
    rcases List.mem_append.mp q2 with q2 | q2
    · exact e2 ⟨q1, q2⟩
    · have e1 := List.mem_singleton.mp q2
      refine hl ?_
      rw [← q1]
      exact look_of_mem hn 0 (by rw [← e1]; exact hp)
theorem Mid.start' {ps : List (Int × Int)} {ns : List Int} {wt rd : List (Int × Int)} (G : GoodPairs ps) (ew : wt = real ps) (er : rd = tell [] (real ps)) (hp : ns.Perm (wt.map (·.1))) :
    Mid ps wt rd (ns.filter fun t => decide (kdfLook rd t 0 = 0)) [] := by
  subst ew er
  exact Mid.start G hp
theorem Mid.empty {ps wt rd : List (Int × Int)} {ready : List Int} {mv : List (Int × Int)} (M : Mid ps wt rd ready mv) (h : ready.length = 0) : Mid ps wt rd [] mv := by
  have := List.eq_nil_of_length_eq_zero h
  subst this; exact M
end Mine
end
section
open PySem PySem.W PySem.Calls PyProof.Rows PyProof.Rows.LCg
namespace Mine
local macro_rules | `(tactic| tb_start) => `(tactic| repeat' (first | (k_unfold; (try dsimp only)) | walk1 | (dsimp only; walk1) | fail "no step"))
local macro_rules | `(tactic| ktr_enter) => `(tactic| (refine' nm_callC ?ps ?k1 ?k2 ?k3 ?k4 ?k5 ?kA ?kF ?kK ?k6 ?k7 ?k8 ?k9 ?kB ?kD ?kP ?_ ?c2 ?c3 ?c4; (case kA => exact rfl); (case kF => exact rfl); (case kK => assumption); (case k1 => k_asm); (case k2 => k_asm); (case k3 => k_asm); (case k4 => k_asm); (case k5 => k_asm); (case k6 => k_is); (case k7 => k_is); (case k8 => ktr_room); (case k9 => exact BindsTo.of_eq rfl); (case kB => exact rfl); (case kD => decide +kernel); (case c2 => exact rfl); (case c3 => exact rfl); (case c4 => exact rfl)))
local macro_rules | `(tactic| walk_at "exec For Tuple Name cons nil") => `(tactic| (k_here; refine nm_for ?_ ?hs; (case hs => intro _; with_unfolding_all rfl)))
local macro_rules | `(tactic| walk_at "exec For Name Name cons nil") => `(tactic| (k_here; refine nm_for ?_ ?hs; (case hs => intro _; with_unfolding_all rfl)))
local macro_rules | `(tactic| walk_at "exec For Name Call cons nil") => `(tactic| (k_here; refine nm_for ?_ ?hs; (case hs => intro _; with_unfolding_all rfl)))
local macro_rules | `(tactic| walk_at "call builtin:list.append") => `(tactic| (k_here; (with_reducible show wpAny _ _ (call (Value.builtin _) [Value.ref _, _]) _ _ _); k_dflt (refine' nm_append ?F ?N ?U ?z ?_; (case F => k_asm); (case N => k_asm); (case U => k_updF); (case z => first | omega | (simp only [List.length_append, List.length_cons, List.length_nil]; omega))); intro h' F' N'; (try dsimp only at N')))
local macro_rules | `(tactic| walk_at "compareOp In int ref") => `(tactic| (k_here; k_dflt (refine' kdf_in (IntD.tab ?D ?N ?m ?lo) ?_; (case N => k_asm); (case m => k_mem); (case D => assumption); (case lo => assumption))))
local macro_rules | `(tactic| walk_at "subscriptTail Name Name ref int") => `(tactic| (k_here; (with_reducible show wpAny _ _ (subscriptTail _ _ (Value.ref _) (Value.int _ _)) _ _ _); k_dflt (refine' kdf_item (IntD.tab ?D ?N ?m ?lo) ?hk ?_ ?hs ?hg; (case N => k_asm); (case m => k_mem); (case D => assumption); (case lo => assumption); (case hk => first | assumption | exact has_put _ _ _); (case hs => with_unfolding_all rfl); (case hg => intro _; with_unfolding_all rfl)); intro _))
local macro_rules | `(tactic| walk_at "call builtin:dict.get") => `(tactic| (k_here; (with_reducible show wpAny _ _ (call (Value.builtin "dict.get") [Value.ref _, Value.int _ _, Value.int _ _]) _ _ _); k_dflt (refine' kdf_get2 (IntD.tab ?D ?N ?m ?lo) ?_; (case N => k_asm); (case m => k_mem); (case D => assumption); (case lo => assumption)); intro _))
local macro_rules | `(tactic| walk_at "setItem ref int") => `(tactic| (k_here; (with_reducible show wpAny _ _ (setItem (Value.ref _) (Value.int _ _) (Value.int _ _)) _ _ _); k_dflt (refine' nm_dset ?F ?N ?U ?D ?z ?_; (case F => k_asm); (case N => k_asm); (case U => k_updF); (case D => assumption); (case z => omega)); intro h' o' F' N' hd'; (try dsimp only at N')))
local macro_rules | `(tactic| walk_at "call builtin:dict.pop") => `(tactic| (k_here; k_dflt (refine' nm_dpop ?F ?N ?U ?D ?hk ?z ?_; (case F => k_asm); (case N => k_asm); (case U => k_updF); (case D => assumption); (case hk => assumption); (case z => omega)); intro h' o' t' F' N' hd'; (try dsimp only at N')))
local macro_rules | `(tactic| walk_at "exec While") => `(tactic| (refine nm_here ?_))
local macro_rules | `(tactic| walk_at "call builtin:len") => `(tactic| (k_here; (with_reducible show wpAny _ _ (call (Value.builtin "len") [Value.ref _]) _ _ _); k_dflt (refine' nm_len ?N ?m ?z ?_; (case N => k_asm); (case m => k_mem); (case z => omega))))
local macro_rules | `(tactic| walk_at "call builtin:sorted") => `(tactic| (k_here; (with_reducible show wpAny _ _ (call (Value.builtin "sorted") [Value.ref _]) _ _ _); k_dflt (refine' nm_sortedD ?hh ?F ?N (IntD.tab ?D ?N2 ?m ?lo) ?z ?_; (case hh => rfl); (case F => k_asm); (case N => k_asm); (case N2 => k_asm); (case m => k_mem); (case D => assumption); (case lo => assumption); (case z => omega)); intro B' h' us' ns' n' tk' F' N' l1 hi' hp'; (try k_lt l1)))
local macro_rules | `(tactic| walk_at "call builtin:min") => `(tactic| (k_here; (with_reducible show wpAny _ _ (call (Value.builtin "min") [Value.ref _]) _ _ _); k_dflt (refine' nm_minD ?hh ?F ?N (IntD.tab ?D ?N2 ?m ?lo) ?z ?_; (case hh => rfl); (case F => k_asm); (case N => k_asm); (case N2 => k_asm); (case m => k_mem); (case D => assumption); (case lo => assumption); (case z => omega)); intro h' M' t' k' F' N' a' b'))
local macro_rules | `(tactic| walk_at "truthy ref") => `(tactic| (k_here; k_dflt (first | (refine' nm_dtruth0 (IntD.tab ?D ?N ?m ?lo) ?_; (case N => k_asm); (case m => k_mem); (case D => assumption); (case lo => assumption)) | (refine' nm_dtruth1 (IntD.tab ?D ?N ?m ?lo) ?p ?z ?_; (case N => k_asm); (case m => k_mem); (case D => assumption); (case lo => assumption); (case p => omega); (case z => omega)))))
local macro_rules | `(tactic| walk_at "truthy ref") => `(tactic| (k_here; k_dflt (first | (refine' nm_ltruth0 ?N ?m ?_; (case N => k_asm); (case m => k_mem)) | (refine' nm_ltruth1 ?N ?m ?z ?_; (case N => k_asm); (case m => k_mem); (case z => omega)))))
local macro_rules | `(tactic| walk_at "call builtin:list.pop") => `(tactic| (k_here; (with_reducible show wpAny _ _ (call (Value.builtin _) [Value.ref _]) _ _ _); k_dflt (refine' nm_pop ?F ?N ?U ?y ?z ?_; (case F => k_asm); (case N => k_asm); (case U => k_updF); (case y => exact rfl); (case z => (try simp only [List.length_append, List.length_cons, List.length_nil]); omega)); intro h' F' N'; (try dsimp only at N')))
local macro_rules | `(tactic| walk_at "exec Assign cons ListComp") => `(tactic| (k_here; k_dflt (refine nm_compTA (F₀ := by k_asm) (by rfl) (by with_unfolding_all rfl) (by with_unfolding_all rfl) (by decide) (by rfl) (by decide) (by rfl) (by rfl) (by rfl) ?_)))
local macro_rules | `(tactic| walk_at "getMethod ref") => `(tactic| (k_here; (with_reducible show wpAny _ _ (getMethod (Value.ref _) (Str.ofString "get") _) _ _ _); k_dflt (refine' nm_dmeth PySem.F.slot_dict_get PySem.F.type_dict_get ?N ?m ?D ?_; (case N => k_asm); (case m => k_mem); (case D => assumption))))
local macro_rules | `(tactic| walk_at "getMethod ref") => `(tactic| (k_here; (with_reducible show wpAny _ _ (getMethod (Value.ref _) (Str.ofString "pop") _) _ _ _); k_dflt (refine' nm_dmeth PySem.F.slot_dict_pop PySem.F.type_dict_pop ?N ?m ?D ?_; (case N => k_asm); (case m => k_mem); (case D => assumption))))
structure LS where
  ow : Obj
  od : Obj
  wt : List (Int × Int)
  rd : List (Int × Int)
  rv : List Value
  rn : Nat
  ready : List Int
  fv : List Value
  fn : Nat
  mv : List (Int × Int)
  tl : List (Addr × Obj)
structure XS where
  ow : Obj
structure MS where
  ow : Obj
  od : Obj
set_option maxHeartbeats 8000000 in
theorem moves_ok {w : World} {mean : ExcName → Option Value} {mg mb : Str → Option Value} {dp un : Nat} {gd : Option (List Code)} {cn : Str} {cs : Scope} {a : Addr} {ccd : Value} {cl : List (Str × Addr)} {outer : List Env} {A₀ : Around} {base h₀ : Heap} {L : Addr} {m : Str → Option Value} {s : Shared} {Q E : Value → Shared → Prop}
   {l : Addr} {vs : List Value} {ps : List (Int × Int)}
   (C : Cx w mean mg mb cs outer A₀ base h₀ L m s) (hl : s.heap.IsList l vs.toArray) (hp : PairsAt s.heap vs ps) (G : GoodPairs ps)
   (hdp : dp + 2 < recursionLimit) (hun : un + 12 < cLine)
   (hret : ∀ (D : Addr) (us : List Value) (c : Nat) (mv : List (Int × Int)) (tl : List (Addr × Obj)) (h' : Heap) (tk' : Nat), PairsIn tl us mv → MovesOk ps mv → Fr h₀ L h' m → News h₀ L h' ((D, listOf us.toArray c) :: tl) → (∀ b o, s.heap.get? b = some o → h'.get? b = some o) → (∀ p ∈ (D, listOf us.toArray c) :: tl, s.heap.get? p.1 = none) → Q (.ref D) { s with heap := h', toks := tk' }) :
   wpAny (model PySem.Challenge.rw_nm0001_01.row.prog w) (ktrTop dp un gd cn cs L a ccd cl outer) (call (.ref 19) [.ref l]) Q E s := by
  w_top off
  have : (PySem.Challenge.rw_nm0001_01 = PySem.Challenge.rw_nm0001_01) ∧ (hd.heap_39 w.params = hd.heap_39 w.params) := by k_fill; exact ⟨rfl, rfl⟩
  clear this
  obtain ⟨B, F, X, T, hk⟩ := C
  have N : News h₀ L s.heap [] := fun _ h => nomatch h
  k_dflt ktr_enter
  case ps => exact [(Str.ofString "pairs", .ref l)]
  case kP => intro _; rfl
  intro g' L' h' tk0 cells hkeep FG F' N' Y' lt' B' X' T'
  obtain ⟨oc, hE, d1⟩ := CellsAre.one Y'
  subst hE
  simp only [List.cons_append, List.nil_append] at N'
  have hlg := hl.at fun o e => hkeep l o e (by simp)
  have hpg := hp.mono (tuple_keep fun b o e => hkeep b o e (by simp))
  clear hkeep lt' FG F X T B N hl hp
  (try dsimp only); (try k_fold)
  tb_start
  rename_i WT _ o1 lo1 j1 j2 a1 b1 l1 RD _ o2 lo2 j3 j4 a2 b2 l2 D _ l3 _ _ h3 oc2 F₁ N₁ hcell
  have hI1 : IntD PySem.Challenge.rw_nm0001_01.row.prog w o1 [] := ⟨_, a1, b1⟩
  have hI2 : IntD PySem.Challenge.rw_nm0001_01.row.prog w o2 [] := ⟨_, a2, b2⟩
  clear a1 b1 a2 b2 j1 j2 j3 j4 Y' d1
  have hGf := G.few
  refine NFor.listP (vs := vs) (fun c : MS => [(RD, c.od), (WT, c.ow), (L' + 1, oc2)]) (fun c => [(Str.ofString "waiting", .ref WT)])
    (fun i c => IntD PySem.Challenge.rw_nm0001_01.row.prog w c.ow (real (ps.take i)) ∧ IntD PySem.Challenge.rw_nm0001_01.row.prog w c.od (tell [] (real (ps.take i))))
    (fun i x y => ∃ a b ta tb, x = .int a ta ∧ y = .int b tb ∧ ps[i]? = some (a, b)) ⟨o1, o2⟩ rfl ?_ ?_ F₁ (news_sub N₁ (by kst_inAny)) ?_ ?_ rfl rfl rfl ?_ ?_
  · intro _ h _ F _
    exact hlg.at fun o e => F.keep _ o e
  · intro i v hv
    obtain ⟨t, a, b, ta, tb, e1, e2, e3⟩ := hpg.get hv
    exact ⟨t, _, _, e1, ⟨a, b, ta, tb, rfl, rfl, e2⟩, fun _ h _ F _ => tuple_keep (fun b o e => F.keep b o e) _ _ e3⟩
  · kst_all
  · exact ⟨hI1, hI2⟩
  · rintro i x y ⟨ow, od⟩ h tk u I oI hi ⟨a, b, ta, tb, rfl, rfl, hab⟩ ⟨hw, hd⟩ F₂ N₂ off
    dsimp only at hw hd F₂ N₂ off
    dsimp only [Off1] at off
    have lw := real_len ps i G.few
    have ld := tell_len G i
    have hfr := real_fresh G.nodup hab
    obtain ⟨wt, ew⟩ : ∃ wt, wt = real (ps.take i) := ⟨_, rfl⟩
    obtain ⟨rd, er⟩ : ∃ rd, rd = tell [] (real (ps.take i)) := ⟨_, rfl⟩
    rw [← ew] at hw lw hfr
    rw [← er] at hd ld
    clear F₁ N₁ hI1 hI2
    (try k_fold)
    tb_start
    · rename_i hne h5 o5 F5 N5 hw5 t5 h6 o6 F6 N6 hd6
      refine NEnd.intro ⟨o5, o6⟩ F6 N6 (by (try dsimp only); kst_inAny) ?_ ?_ ?_
      · intro q hq
        rw [List.mem_singleton.mp hq]
        exact off
      · kst_all
      · refine ⟨?_, ?_⟩
        · dsimp only
          rw [real_yes hab hne, ← ew, ← put_fresh hfr]
          exact hw5
        · dsimp only
          rw [real_yes hab hne, tell_snoc, ← er]
          exact hd6
    · rename_i hne
      refine NEnd.intro ⟨ow, od⟩ F₂ N₂ (by (try dsimp only); kst_inAny) ?_ ?_ ?_
      · intro q hq
        rw [List.mem_singleton.mp hq]
        exact off
      · kst_all
      · dsimp only
        rw [real_no hab hne, ← er, ← ew]
        exact ⟨hw, hd⟩
  · rintro ⟨ow, od⟩ h tk u ⟨hw, hd⟩ F₂ N₂
    dsimp only at hw hd F₂ N₂
    rw [hpg.length, List.take_length] at hw hd
    have lw : (real ps).length ≤ 12 := by
      have := real_len ps ps.length G.few
      rwa [List.take_length] at this
    have ld : (tell [] (real ps)).length ≤ 15 := by
      have := tell_len G ps.length
      rwa [List.take_length] at this
    obtain ⟨wt, ew⟩ : ∃ wt, wt = real ps := ⟨_, rfl⟩
    obtain ⟨rd, er⟩ : ∃ rd, rd = tell [] (real ps) := ⟨_, rfl⟩
    rw [← ew] at hw lw
    rw [← er] at hd ld
    clear F₁ N₁ hI1 hI2 hlg hpg
    (try dsimp only)
    tb_start
    rename_i SX hS us ns nS tkS FS NS his hps lS
    have husl : us.length ≤ 12 := by
      have := hps.length_eq
      rw [List.length_map] at this
      have := his.length
      omega
    refine LCt.CompSrcT.ledger (news := [(SX, listOf us.toArray nS), (RD, od), (WT, ow), (L' + 1, oc2)]) rfl (by k_asm) NS (.head _) ?_ ?_
    · rw [List.size_toArray, sizeLine_eq]
      omega
    · intro g₂
      refine compRestT_ind (n := us.toArray.size) (fun i ys nw => nw = [(SX, listOf us.toArray nS), (RD, od), (WT, ow), (L' + 1, oc2)] ∧ IntsAre ys ((ns.take i).filter fun t => decide (kdfLook rd t 0 = 0)))
        ?_ ?_ _ 0 [] _ (Nat.zero_add _) ⟨rfl, .nil⟩
      · rintro i ys nw hi ⟨rfl, hys⟩ v I oI C oC D m₂ h tk E' hv hC hm F₃ N₃ off ne
        obtain ⟨x, t, rfl, hx⟩ := his.at i v (by simpa using hv)
        dsimp only [Off3] at off
        clear F₂ N₂ FS NS
        (try k_fold)
        tb_start
        · rename_i _ _ hz
          rw [ft_yes hx (by simpa using hz)]
          exact ints_snoc hys x t
        · rename_i _ _ hz
          rw [ft_no hx (by simpa using hz)]
          exact hys
      · rintro ys nw ⟨rfl, hys⟩ D h tk F₃ N₃ off
        rw [List.size_toArray, his.length, List.take_length] at hys
        (try dsimp only at F₃ N₃ off)
        dsimp only [Off1] at off
        clear F₂ N₂ FS NS
        (try dsimp only)
        tb_start
        rename_i FD h7 F7 N7 l7 h8 F8 N8
        have M0 := Mid.start' G ew er hps
        clear F7 N7
        have N8' : News g' L' h8 [(FD, listOf ([] : List Value).toArray 0), (D, listOf ys.toArray ys.length), (SX, listOf us.toArray nS), (RD, od), (WT, ow), (L' + 1, oc2)] := N8
        clear N8
        refine nm_while (fun c : LS => (FD, listOf c.fv.toArray c.fn) :: (D, listOf c.rv.toArray c.rn) :: (RD, c.od) :: (WT, c.ow) :: (L' + 1, oc2) :: c.tl)
          (fun _ => [(Str.ofString "found", .ref FD), (Str.ofString "ready", .ref D), (Str.ofString "waiting", .ref WT)])
          (fun c => IntD PySem.Challenge.rw_nm0001_01.row.prog w c.ow c.wt ∧ IntD PySem.Challenge.rw_nm0001_01.row.prog w c.od c.rd ∧ IntsAre c.rv c.ready ∧ PairsIn c.tl c.fv c.mv ∧ OwnOff c.tl [FD, D, RD, WT] ∧ Mid ps c.wt c.rd c.ready c.mv) (fun c => c.wt.length)
          ⟨ow, od, wt, rd, ys, ys.length, _, [], 0, [], []⟩ F8 (news_sub N8' (by kst_inAny)) ?_ ⟨hw, hd, hys, .nil, ownOff_nil, M0⟩ ?_
        · kst_all
        · clear hw hd hys M0 lw ld ew er hps his F8 N8'
          rintro ⟨ow, od, wt, rd, rv, rn, ready, fv, fn, mv, tl⟩ h tk v ⟨hw, hd, hrv, hfv, htl, M⟩ F₉ N₉
          dsimp only at hw hd hrv hfv htl M F₉ N₉
          have lw := M.wlen
          have ld := M.rlen
          have lr := M.ylen
          have lm := M.mlen G.few
          have lf := hfv.length
          have lrv := hrv.length
          rcases Nat.eq_zero_or_pos wt.length with hw0 | hw0
          · have := List.eq_nil_of_length_eq_zero hw0
            subst this
            (try k_fold)
            tb_start
            have MF := M.fin G.few
            (try dsimp only)
            refine NRet.intro ((FD, listOf fv.toArray fn) :: tl) (by k_asm) N₉ (by kst_inAny) (fun F₃ N₃ hkeep fresh => ?_)
            exact hret FD fv fn mv tl _ _ hfv MF F₃ N₃ (fun b o e => hkeep b o e (by simp)) (fun p hp => (fresh p hp).resolve_left (by simp))
          · rcases Nat.eq_zero_or_pos ready.length with hr0 | hr0
            · have M := M.empty hr0
              have : rv = [] := List.eq_nil_of_length_eq_zero (by omega)
              subst this
              (try k_fold)
              tb_start
              rename_i f tf _ _ _ hfm hfl _ _ T5 _ _ _ lT5 _ _ _ SB _ us2 ns2 nS2 _ FX NX his2 hps2 lSB
              obtain ⟨b1, b2, M1⟩ := M.brk hfm hfl
              have M1 : Mid ps (rt f wt) (kdfPut (kdfPut rd 5 (kdfLook rd 5 0 + kdfLook rd f 0)) f 0) ([] ++ [f]) (mv ++ [(5, f)]) := M1
              have lr1 := M1.rlen
              have lw1 := M1.wlen
              have lr2 := kdfPut_len rd 5 (kdfLook rd 5 0 + kdfLook rd f 0)
              have lwr : (rt f wt).length = wt.length := by unfold rt; rw [List.length_map]
              obtain ⟨q1, q2, q3, q4⟩ := M1.step
              have q5 := has_iff.mpr q1
              have hwk := M.keys
              have hus2 : us2.length = ns2.length := his2.length
              have hns2 : ns2.Nodup := (hps2.nodup_iff).mpr hwk
              refine NFor.listN (vs := us2) (fun c : XS => (SB, listOf us2.toArray nS2) :: (T5, tup2 5 189 f tf) :: (FD, listOf (fv ++ [Value.ref T5]).toArray (fn + 1)) :: (D, listOf ([] : List Value).toArray rn) :: (RD, od) :: (WT, c.ow) :: (L' + 1, oc2) :: tl)
                (fun _ => [(Str.ofString "first", .int f tf), (Str.ofString "found", .ref FD), (Str.ofString "ready", .ref D), (Str.ofString "waiting", .ref WT)])
                (fun i c => IntD PySem.Challenge.rw_nm0001_01.row.prog w c.ow (rtAt f (ns2.take i) wt)) ⟨ow⟩ rfl ?_ FX NX ?_ ?_ rfl rfl ?_ ?_
              · intro c h m _ N
                exact ⟨_, (N _ (.head _)).1, rfl, _, rfl⟩
              · kst_all
              · show IntD _ _ _ (rtAt f [] wt)
                rw [rtAt_nil]
                exact hw
              · rintro i x ⟨ow2⟩ h tk u I oI hv hP F₂ N₂ off
                obtain ⟨x, t, rfl, hx⟩ := his2.at i x hv
                dsimp only at hP F₂ N₂ off
                dsimp only [Off1] at off
                have hxk : x ∈ wt.map (·.1) := (hps2.mem_iff).mp (List.mem_of_getElem? hx)
                have hxn := nodup_take hns2 hx
                have hlk := rtAt_look (f := f) (wt := wt) hxn
                have etk : ns2.take (i + 1) = ns2.take i ++ [x] := by rw [List.take_add_one, hx]; rfl
                have hh : kdfHas (rtAt f (ns2.take i) wt) x = true := has_iff.mpr (by rw [rtAt_keys]; exact hxk)
                have hll := rtAt_len f (ns2.take i) wt
                clear FX NX N₉ F₉ hw
                (try k_fold)
                tb_start
                · rename_i _ hlf _ o5 F5 N5 hd5
                  refine NEnd.intro ⟨o5⟩ F5 N5 (by (try dsimp only); kst_inAny) ?_ ?_ ?_
                  · intro q hq
                    rw [List.mem_singleton.mp hq]
                    exact off
                  · kst_all
                  · dsimp only
                    rw [etk, ← rtAt_yes hwk hxk (by rw [← hlk]; exact hlf)]
                    exact hd5
                · rename_i _ hlf
                  refine NEnd.intro ⟨ow2⟩ F₂ N₂ (by (try dsimp only); kst_inAny) ?_ ?_ ?_
                  · intro q hq
                    rw [List.mem_singleton.mp hq]
                    exact off
                  · kst_all
                  · dsimp only
                    rw [etk, ← rtAt_no hwk (by rw [← hlk]; exact hlf)]
                    exact hP
              · rintro ⟨ow2⟩ h tk u hP F₂ N₂
                dsimp only at hP F₂ N₂
                rw [hus2, List.take_length, rtAt_all fun p hp => (hps2.mem_iff).mpr (List.mem_map_of_mem hp)] at hP
                clear FX NX N₉ F₉ hw
                (try dsimp only)
                tb_start
                · rename_i oW ts hdw _ _ T _ _ _ lT _ _ _ _ _ _ oR _ _ hdr _ c1 c2 _ _ F5 N5
                  rw [look_put, if_pos rfl] at c1
                  obtain ⟨MM, ml⟩ := q4 ([] ++ [kdfLook (rt f wt) f 0]) (by rw [if_pos ⟨c1, c2⟩])
                  refine NEnd.intro ⟨oW, oR, kdyDel (rt f wt) f, (kdfPut (kdfPut (kdfPut rd 5 (kdfLook rd 5 0 + kdfLook rd f 0)) f 0) (kdfLook (rt f wt) f 0) (kdfLook (kdfPut (kdfPut rd 5 (kdfLook rd 5 0 + kdfLook rd f 0)) f 0) (kdfLook (rt f wt) f 0) 0 - 1)), ([] ++ [Value.int (kdfLook (rt f wt) f 0) ts]), rn + 1 + 1 + 1, ([] ++ [kdfLook (rt f wt) f 0]), (fv ++ [Value.ref T5]) ++ [Value.ref T], fn + 1 + 1, (mv ++ [(5, f)]) ++ [(f, kdfLook (rt f wt) f 0)], (T, tup2 f tf (kdfLook (rt f wt) f 0) ts) :: (T5, tup2 5 189 f tf) :: tl⟩ F5 N5 (by (try dsimp only); kst_inAny) ?_ ?_ ?_
                  · intro q hq; cases hq
                  · kst_all
                  · refine ⟨⟨hdw, hdr, ints_snoc .nil _ _, (((hfv.mono fun p hp => .tail _ hp).snoc (.head _)).mono fun p hp => .tail _ hp).snoc (.head _), ownOff_cons ?_ (ownOff_cons ?_ htl), MM⟩, by dsimp only; omega⟩
                    · intro b hb
                      simp only [List.mem_cons, List.not_mem_nil, or_false] at hb
                      rcases hb with rfl | rfl | rfl | rfl <;> exact neN (by omega)
                    · intro b hb
                      simp only [List.mem_cons, List.not_mem_nil, or_false] at hb
                      rcases hb with rfl | rfl | rfl | rfl <;> exact neN (by omega)
                · rename_i oW ts hdw _ _ T _ _ _ lT _ _ _ _ _ _ oR F5 N5 hdr _ c1 c2
                  obtain ⟨MM, ml⟩ := q4 [] (by rw [if_neg (fun q => by rw [c2] at q; cases q.2)])
                  refine NEnd.intro ⟨oW, oR, kdyDel (rt f wt) f, (kdfPut (kdfPut (kdfPut rd 5 (kdfLook rd 5 0 + kdfLook rd f 0)) f 0) (kdfLook (rt f wt) f 0) (kdfLook (kdfPut (kdfPut rd 5 (kdfLook rd 5 0 + kdfLook rd f 0)) f 0) (kdfLook (rt f wt) f 0) 0 - 1)), [], rn + 1 + 1, [], (fv ++ [Value.ref T5]) ++ [Value.ref T], fn + 1 + 1, (mv ++ [(5, f)]) ++ [(f, kdfLook (rt f wt) f 0)], (T, tup2 f tf (kdfLook (rt f wt) f 0) ts) :: (T5, tup2 5 189 f tf) :: tl⟩ F5 N5 (by (try dsimp only); kst_inAny) ?_ ?_ ?_
                  · intro q hq; cases hq
                  · kst_all
                  · refine ⟨⟨hdw, hdr, .nil, (((hfv.mono fun p hp => .tail _ hp).snoc (.head _)).mono fun p hp => .tail _ hp).snoc (.head _), ownOff_cons ?_ (ownOff_cons ?_ htl), MM⟩, by dsimp only; omega⟩
                    · intro b hb
                      simp only [List.mem_cons, List.not_mem_nil, or_false] at hb
                      rcases hb with rfl | rfl | rfl | rfl <;> exact neN (by omega)
                    · intro b hb
                      simp only [List.mem_cons, List.not_mem_nil, or_false] at hb
                      rcases hb with rfl | rfl | rfl | rfl <;> exact neN (by omega)
                · rename_i oW ts hdw _ _ T _ _ _ lT _ _ _ _ _ _ oR F5 N5 hdr _ c1
                  rw [look_put, if_pos rfl] at c1
                  obtain ⟨MM, ml⟩ := q4 [] (by rw [if_neg (fun q => c1 q.1)])
                  refine NEnd.intro ⟨oW, oR, kdyDel (rt f wt) f, (kdfPut (kdfPut (kdfPut rd 5 (kdfLook rd 5 0 + kdfLook rd f 0)) f 0) (kdfLook (rt f wt) f 0) (kdfLook (kdfPut (kdfPut rd 5 (kdfLook rd 5 0 + kdfLook rd f 0)) f 0) (kdfLook (rt f wt) f 0) 0 - 1)), [], rn + 1 + 1, [], (fv ++ [Value.ref T5]) ++ [Value.ref T], fn + 1 + 1, (mv ++ [(5, f)]) ++ [(f, kdfLook (rt f wt) f 0)], (T, tup2 f tf (kdfLook (rt f wt) f 0) ts) :: (T5, tup2 5 189 f tf) :: tl⟩ F5 N5 (by (try dsimp only); kst_inAny) ?_ ?_ ?_
                  · intro q hq; cases hq
                  · kst_all
                  · refine ⟨⟨hdw, hdr, .nil, (((hfv.mono fun p hp => .tail _ hp).snoc (.head _)).mono fun p hp => .tail _ hp).snoc (.head _), ownOff_cons ?_ (ownOff_cons ?_ htl), MM⟩, by dsimp only; omega⟩
                    · intro b hb
                      simp only [List.mem_cons, List.not_mem_nil, or_false] at hb
                      rcases hb with rfl | rfl | rfl | rfl <;> exact neN (by omega)
                    · intro b hb
                      simp only [List.mem_cons, List.not_mem_nil, or_false] at hb
                      rcases hb with rfl | rfl | rfl | rfl <;> exact neN (by omega)
            · obtain ⟨r, t, e⟩ : ∃ r t, ready = r ++ [t] := ⟨_, _, (List.dropLast_concat_getLast (l := ready) (fun e => by rw [e] at hr0; cases hr0)).symm⟩
              subst e
              obtain ⟨p, tt, e, hp⟩ := ints_snoc_inv hrv
              subst e
              obtain ⟨q1, q2, q3, q4⟩ := M.step
              have q5 := has_iff.mpr q1
              have hpl : p.length ≤ 12 := by rw [hp.length]; rw [List.length_append] at lr; omega
              (try k_fold)
              tb_start
              · rename_i oW ts hdw _ _ T _ _ _ lT _ _ _ _ _ _ oR _ _ hdr _ c1 c2 _ _ F5 N5
                rw [look_put, if_pos rfl] at c1
                obtain ⟨MM, ml⟩ := q4 (r ++ [kdfLook wt t 0]) (by rw [if_pos ⟨c1, c2⟩])
                refine NEnd.intro ⟨oW, oR, kdyDel wt t, kdfPut rd (kdfLook wt t 0) (kdfLook rd (kdfLook wt t 0) 0 - 1), p ++ [.int (kdfLook wt t 0) ts], rn + 1 + 1, r ++ [kdfLook wt t 0], fv ++ [.ref T], fn + 1, mv ++ [(t, kdfLook wt t 0)], (T, tup2 t tt (kdfLook wt t 0) ts) :: tl⟩ F5 N5 (by (try dsimp only); kst_inAny) ?_ ?_ ?_
                · intro q hq; cases hq
                · kst_all
                · refine ⟨⟨hdw, hdr, ints_snoc hp _ _, (hfv.mono fun p hp => .tail _ hp).snoc (.head _), ownOff_cons ?_ htl, MM⟩, by dsimp only; omega⟩
                  intro b hb
                  simp only [List.mem_cons, List.not_mem_nil, or_false] at hb
                  rcases hb with rfl | rfl | rfl | rfl <;> exact neN (by omega)
              · rename_i oW ts hdw _ _ T _ _ _ lT _ _ _ _ _ _ oR F5 N5 hdr _ c1 c2
                obtain ⟨MM, ml⟩ := q4 r (by rw [if_neg (fun q => by rw [c2] at q; cases q.2)])
                refine NEnd.intro ⟨oW, oR, kdyDel wt t, kdfPut rd (kdfLook wt t 0) (kdfLook rd (kdfLook wt t 0) 0 - 1), p, rn + 1, r, fv ++ [.ref T], fn + 1, mv ++ [(t, kdfLook wt t 0)], (T, tup2 t tt (kdfLook wt t 0) ts) :: tl⟩ F5 N5 (by (try dsimp only); kst_inAny) ?_ ?_ ?_
                · intro q hq; cases hq
                · kst_all
                · refine ⟨⟨hdw, hdr, hp, (hfv.mono fun p hp => .tail _ hp).snoc (.head _), ownOff_cons ?_ htl, MM⟩, by dsimp only; omega⟩
                  intro b hb
                  simp only [List.mem_cons, List.not_mem_nil, or_false] at hb
                  rcases hb with rfl | rfl | rfl | rfl <;> exact neN (by omega)
              · rename_i oW ts hdw _ _ T _ _ _ lT _ _ _ _ _ _ oR F5 N5 hdr _ c1
                rw [look_put, if_pos rfl] at c1
                obtain ⟨MM, ml⟩ := q4 r (by rw [if_neg (fun q => c1 q.1)])
                refine NEnd.intro ⟨oW, oR, kdyDel wt t, kdfPut rd (kdfLook wt t 0) (kdfLook rd (kdfLook wt t 0) 0 - 1), p, rn + 1, r, fv ++ [.ref T], fn + 1, mv ++ [(t, kdfLook wt t 0)], (T, tup2 t tt (kdfLook wt t 0) ts) :: tl⟩ F5 N5 (by (try dsimp only); kst_inAny) ?_ ?_ ?_
                · intro q hq; cases hq
                · kst_all
                · refine ⟨⟨hdw, hdr, hp, (hfv.mono fun p hp => .tail _ hp).snoc (.head _), ownOff_cons ?_ htl, MM⟩, by dsimp only; omega⟩
                  intro b hb
                  simp only [List.mem_cons, List.not_mem_nil, or_false] at hb
                  rcases hb with rfl | rfl | rfl | rfl <;> exact neN (by omega)
end Mine
end
section
open PySem PySem.W PySem.Calls PyProof.Rows PyProof.V PySem.Spec PyProof.Rows.LCg
namespace Mine
/-- what is left of a block over pairs, with one test -/
def CompRestP (prog : Program) (w : World) (A : Around) (h₀ : Heap) (L : Addr) (m : Str → Option Value) (env : Env) (ct elt : PySem.Expr) (a b : Str) (scope : Scope) (cl : List (Str × Addr)) (s : Shared) (S : List (Addr × Obj) → Prop) (G : Nat → Value → Value → Prop)
    (Fin : List Value → List (Addr × Obj) → Prop) : Nat → Nat → List Value → List (Addr × Obj) → Prop
  | 0, _, ys, news => Fin ys news
  | k + 1, i, ys, news => ∀ x y I oI C oC D m₂ h tk (E' : Value → Shared → Prop), G i x y → NsObj oC m₂ → m₂ a = some x → m₂ b = some y → Fr h₀ L h m → News h₀ L h ((I, oI) :: (C, oC) :: (D, lst ys) :: news) → Off3 I C D news → ((@Ne Nat I C) ∧ (@Ne Nat I D) ∧ (@Ne Nat C D)) →
      wpAny (model prog w) A (isTrue ct (compEnvC scope cl C env) (eval ct (compEnvC scope cl C env))) (fun ok s' => if ok = true then
        wpAny (model prog w) A (eval elt (compEnvC scope cl C env)) (CompEnd h₀ L m { s with heap := h, toks := tk } I oI C oC D (lst ys) S (fun y news' => CompRestP prog w A h₀ L m env ct elt a b scope cl s S G Fin k (i + 1) (ys ++ [y]) news')) E' s'
        else CompEnd h₀ L m { s with heap := h, toks := tk } I oI C oC D (lst ys) S (fun _ news' => CompRestP prog w A h₀ L m env ct elt a b scope cl s S G Fin k (i + 1) ys news') Value.none s') E' { s with heap := h, toks := tk }
section
variable {prog : Program} {w : World} {A : Around} {E : Value → Shared → Prop} {s : Shared} {h₀ : Heap} {L : Addr} {m : Str → Option Value} {env : Env}
theorem block_P {elt iter c : PySem.Expr} {a b : Str} {pa pb tp : Pos} {kk : Nat} {scope : Scope} {cl : List (Str × Addr)} {pos : Pos} {s₂ : Shared} {I l : Addr} {vs : List Value} {news : List (Addr × Obj)} {G : Nat → Value → Value → Prop}
    {Fin : List Value → List (Addr × Obj) → Prop} {RR : Value → Addr → Result → Shared → Prop}
    (hh : A.handled = none) (hne : l ≠ I) (hsz : vs.length ≤ 1000)
    (hl : ∀ h, (∀ b o, h₀.get? b = some o → h.get? b = some o) → News h₀ L h news → h.IsList l vs.toArray)
    (tup : ∀ i v, vs[i]? = some v → ∃ t x y, v = .ref t ∧ G i x y ∧ ∀ h, (∀ b o, h₀.get? b = some o → h.get? b = some o) → News h₀ L h news → h.IsTuple t #[x, y])
    (hit : s₂.heap.IsListIter I l 0)
    (hcell : ∀ y ∈ scope.names, y.2 ≠ .cell) (hkind : scope.kind = .function) (hxa : scope.names.lookup a = some .local) (hxb : scope.names.lookup b = some .local) (hab : ¬ a = b)
    (F : Fr h₀ L s₂.heap m) (N : News h₀ L s₂.heap news) (hIL : L ≠ I) (hI₀ : h₀.get? I = none) (off : ∀ p ∈ news, p.1 ≠ I)
    (R : CompRestP prog w A h₀ L m env c elt a b scope cl s₂ (fun nw => nw = news) G Fin vs.length 0 [] news)
    (hRR : ∀ D C h tk m' ys news', Fr h₀ L h m → News h₀ L h ((D, lst ys) :: news') → Off1 D news' → h.Ns C m' → h₀.get? C = none → h₀.get? D = none → C ≠ L → D ≠ L → C ≠ D → (∀ p ∈ news', p.1 ≠ C) → Fin ys news' → RR (.ref D) C (.ok .next) { s₂ with heap := h, toks := tk }) :
    wpAny (model prog w) A (newList []) (fun acc s₃ => wpAny (model prog w) A (newFunctionEnv scope env.globals cl [] env.qual none .none (some env)) (fun cenv s₄ =>
      codeAny (model prog w) A (.compStart (.ListComp elt [⟨.Tuple [.Name a pa, .Name b pb] kk tp, iter, [c], 0⟩] scope pos) 0 (.ref I) acc { cenv with scope := relabel scope env }) (RR acc cenv.locals) s₄) E s₃) E s₂ := by
  refine wpAny_newObj_type (wpAny_newFunctionEnv hcell (by intro y hy; simp at hy) (fun h₁ hns₁ hsb₁ => ?_) hkind)
  dsimp only at hns₁ hsb₁ ⊢
  generalize hH2 : s₂.heap.push { cls := .type "list", dict := none, data := .seq ([] : List Value).toArray } = H2 at hns₁ hsb₁ ⊢
  have hC : H2.objs.size = s₂.heap.objs.size + 1 := by rw [← hH2, Heap.size_push]
  have hDC : s₂.heap.objs.size ≠ H2.objs.size := by rw [hC]; exact Nat.ne_of_lt (Nat.lt_succ_self _)
  have below : ∀ b, b < s₂.heap.objs.size → b ≠ H2.objs.size ∧ b ≠ s₂.heap.objs.size := fun b hb => ⟨by rw [hC]; exact Nat.ne_of_lt (Nat.lt_succ_of_lt hb), Nat.ne_of_lt hb⟩
  have hIlt : I < s₂.heap.objs.size := by obtain ⟨_, e, _⟩ := hit; exact Heap.lt_size e
  have old : ∀ b o, s₂.heap.get? b = some o → h₁.get? b = some o := fun b o e => hsb₁.extBut b o (below b (Heap.lt_size e)).1 (Heap.get?_push_of_some _ (hH2 ▸ Heap.get?_push_of_some _ e))
  have hacc : h₁.get? s₂.heap.objs.size = some (lst []) := hsb₁.extBut _ _ hDC (Heap.get?_push_of_some _ (hH2 ▸ Heap.get?_push_size _ rfl))
  have hit₁ : h₁.IsListIter I l 0 := by obtain ⟨o, e, r⟩ := hit; exact ⟨o, old _ _ e, r⟩
  have fresh : ∀ a, s₂.heap.objs.size ≤ a → s₂.heap.get? a = none := fun a ha => by
    cases e : s₂.heap.get? a with
    | none => rfl
    | some o' => exact absurd (Heap.lt_size e) (Nat.not_lt.mpr ha)
  have fresh₀ : ∀ a, s₂.heap.objs.size ≤ a → h₀.get? a = none := fun a ha => by
    cases e : h₀.get? a with
    | none => rfl
    | some o' => have := F.keep a o' e; rw [fresh a ha] at this; cases this
  have hD₀ : h₀.get? s₂.heap.objs.size = none := fresh₀ _ (Nat.le_refl _)
  have hC₀ : h₀.get? H2.objs.size = none := fresh₀ _ (by rw [hC]; exact Nat.le_succ _)
  have hLlt : L < s₂.heap.objs.size := F.ns.lt
  have hDL : s₂.heap.objs.size ≠ L := Ne.symm (below L hLlt).2
  have hCL : H2.objs.size ≠ L := Ne.symm (below L hLlt).1
  have hCI : I ≠ H2.objs.size := (below I hIlt).1
  have hDI : I ≠ s₂.heap.objs.size := (below I hIlt).2
  have off₀ : Off3 I H2.objs.size s₂.heap.objs.size news := Off3.of fun p hp => ⟨off p hp, (below _ (Heap.lt_size (N p hp).1)).1, (below _ (Heap.lt_size (N p hp).1)).2⟩
  have off3 := off₀.mem
  have W := Walks.list (prog := prog) (w := w) (A := A) hh I l hne vs.toArray
  have hvsz : vs.toArray.size = vs.length := List.size_toArray ..
  have selfIter : ∀ (Q : Value → Shared → Prop) (s₃ : Shared), s₃.heap.IsListIter I l 0 → s₃.heap.IsList l vs.toArray → Q (.ref I) s₃ → wpAny (model prog w) A (pyIter (.ref I)) Q E s₃ := fun Q s₃ hi hl hq => W.self 0 _ _ _ ⟨hi, hl⟩ hq
  have loop : ∀ s₃ : Shared, s₃ = { s₂ with heap := h₁, toks := s₂.toks + ([] : List (Str × Value)).length } →
      codeAny (model prog w) A (.compLoop (.ListComp elt [⟨.Tuple [.Name a pa, .Name b pb] kk tp, iter, [c], 0⟩] scope pos) 0 (.ref I) (.ref s₂.heap.objs.size) (compEnvC scope cl H2.objs.size env))
        (RR (.ref s₂.heap.objs.size) H2.objs.size) s₃ := by
    rintro s₃ rfl
    refine kct_loop
      (fun k s' => ∃ h' tk i ys m', s' = { s₂ with heap := h', toks := tk } ∧ i ≤ vs.length ∧ k = vs.length + 1 - i ∧ ys.length ≤ i ∧ h'.IsListIter I l i ∧ Fr h₀ L h' m ∧ h'.Ns H2.objs.size m' ∧
        News h₀ L h' ((s₂.heap.objs.size, lst ys) :: news) ∧ CompRestP prog w A h₀ L m env c elt a b scope cl s₂ (fun nw => nw = news) G Fin (vs.length - i) i ys news) ?_ (vs.length + 1)
      ⟨h₁, _, 0, [], _, rfl, Nat.zero_le _, rfl, Nat.le_refl _, hit₁, F.keeps old, hns₁, fun p hp => ?_, R⟩
    · rintro k s' ⟨h', tk, i, ys, m', rfl, hi, rfl, hyl, hit', F', hn', N', R'⟩
      have Nn : News h₀ L h' news := fun p hp => N' p (.tail _ hp)
      have hl' := hl h' F'.keep Nn
      by_cases hlt : i < vs.length
      · obtain ⟨j, hj⟩ : ∃ j, vs.length - i = j + 1 := ⟨vs.length - i - 1, by omega⟩
        rw [hj] at R'
        have hv : vs[i]? = some vs[i] := List.getElem?_eq_getElem hlt
        obtain ⟨T, x, y, ev, hG, ht⟩ := tup i _ hv
        rw [ev] at hv
        refine wpAny_pyNext_list_item hit' hl' (by simpa using hv) fun h₂ hit₂ hs₂ => ?_
        refine wpAny_letOwnedTupleGo_listiter hit₂ ?_
        have up₃ : ∀ c o, c ≠ I → h'.get? c = some o → h₂.get? c = some o := fun c o hc e => hs₂.extBut c o hc e
        have F₂ : Fr h₀ L h₂ m := fr_but1 F' up₃ hIL hI₀
        have Nn₂ : News h₀ L h₂ news := fun p hp => ⟨up₃ _ _ (off3 p hp).1 (Nn p hp).1, (Nn p hp).2⟩
        have hT := ht h₂ F₂.keep Nn₂
        refine kcp_assign (env := compEnvC scope cl H2.objs.size env) hh hT (lookup_relabel_local hxa) (lookup_relabel_local hxb) (by simp [compEnvC, relabel, hkind]) (hn'.at' fun o e => up₃ _ o (Ne.symm hCI) e) fun h₄ tk₄ hn₄ hs₄ => ?_
        have up : ∀ c o, c ≠ I → c ≠ H2.objs.size → h'.get? c = some o → h₄.get? c = some o := fun c o h1 h2 e => hs₄ c o h2 (up₃ c o h1 e)
        have hit₄ : h₄.IsListIter I l (i + 1) := by obtain ⟨o, e, r⟩ := hit₂; exact ⟨o, hs₄ I _ hCI e, r⟩
        obtain ⟨oI, heI, hcI⟩ := id hit₄
        obtain ⟨oC, heC, hoC⟩ := ns_obj hn₄
        have F₄ : Fr h₀ L h₄ m := ⟨F'.ns.at' fun o e => up _ o hIL (Ne.symm hCL) e, fun c o e => up c o (fun q => by rw [q, hI₀] at e; cases e) (fun q => by rw [q, hC₀] at e; cases e) (F'.keep c o e), F'.above⟩
        have N₄ : News h₀ L h₄ ((I, oI) :: (H2.objs.size, oC) :: (s₂.heap.objs.size, lst ys) :: news) := fun q hq => by
          rcases List.mem_cons.mp hq with rfl | hq
          · exact ⟨heI, Ne.symm hIL, hI₀⟩
          · rcases List.mem_cons.mp hq with rfl | hq
            · exact ⟨heC, hCL, hC₀⟩
            · have z := N' q hq
              refine ⟨up _ _ ?_ ?_ z.1, z.2⟩
              · rcases List.mem_cons.mp hq with rfl | hq
                · exact Ne.symm hDI
                · exact (off3 q hq).1
              · rcases List.mem_cons.mp hq with rfl | hq
                · exact hDC
                · exact (off3 q hq).2.1
        have fin : ∀ (ys' : List Value) (h₅ : Heap) (tk₅ : Nat), ys'.length ≤ i + 1 → Fr h₀ L h₅ m → News h₀ L h₅ ((I, oI) :: (H2.objs.size, oC) :: (s₂.heap.objs.size, lst ys') :: news) →
            CompRestP prog w A h₀ L m env c elt a b scope cl s₂ (fun nw => nw = news) G Fin j (i + 1) ys' news →
            ∃ q', q' < vs.length + 1 - i ∧ (∃ h' tk i ys m', ({ s₂ with heap := h₅, toks := tk₅ } : Shared) = { s₂ with heap := h', toks := tk } ∧ i ≤ vs.length ∧ q' = vs.length + 1 - i ∧ ys.length ≤ i ∧ h'.IsListIter I l i ∧ Fr h₀ L h' m ∧ h'.Ns H2.objs.size m' ∧
        News h₀ L h' ((s₂.heap.objs.size, lst ys) :: news) ∧ CompRestP prog w A h₀ L m env c elt a b scope cl s₂ (fun nw => nw = news) G Fin (vs.length - i) i ys news) := by
          intro ys' h₅ tk₅ hl F₅ N₅ R₅
          have zI := (N₅ (I, oI) List.mem_cons_self).1
          have zC := (N₅ (H2.objs.size, oC) (List.mem_cons_of_mem _ List.mem_cons_self)).1
          exact ⟨vs.length + 1 - (i + 1), by omega, h₅, tk₅, i + 1, ys', _, rfl, hlt, rfl, hl, ⟨oI, zI, hcI⟩, F₅, hoC.ns zC, fun q hq => N₅ q (List.mem_cons_of_mem _ (List.mem_cons_of_mem _ hq)), by rw [show vs.length - (i + 1) = j by omega]; exact R₅⟩
        refine wpAny_mono (R' x y I oI H2.objs.size oC s₂.heap.objs.size _ h₄ _ _ hG hoC (by simp [hab]) (by simp) F₄ N₄ off₀ ⟨hCI, hDI, Ne.symm hDC⟩) (fun okb s₅ h₅ => ?_) fun _ _ e => e
        cases okb with
        | false =>
          simp only [Bool.false_eq_true, if_false] at h₅ ⊢
          obtain ⟨g₅, tk₅, news₅, rfl, F₅, N₅, off₅, e5, R₅⟩ := h₅
          have e5 : news₅ = news := e5
          rw [e5] at N₅ off₅ R₅
          exact fin ys g₅ tk₅ (Nat.le_succ_of_le hyl) F₅ N₅ R₅
        | true =>
          simp only [if_true] at h₅ ⊢
          refine wpAny_mono h₅ (fun y s₆ h₆ => ?_) fun _ _ e => e
          obtain ⟨g₅, tk₅, news₅, rfl, F₅, N₅, off₅, e5, R₅⟩ := h₆
          have e5 : news₅ = news := e5
          rw [e5] at N₅ off₅ R₅
          have zI := (N₅ (I, oI) List.mem_cons_self).1
          have zC := (N₅ (H2.objs.size, oC) (List.mem_cons_of_mem _ List.mem_cons_self)).1
          have zD := (N₅ (s₂.heap.objs.size, lst ys) (List.mem_cons_of_mem _ (List.mem_cons_of_mem _ List.mem_cons_self))).1
          have N₅' : News h₀ L g₅ news := fun q hq => N₅ q (List.mem_cons_of_mem _ (List.mem_cons_of_mem _ (List.mem_cons_of_mem _ hq)))
          refine append_at (hsz := by show ys.toArray.size ≤ sizeLine; rw [List.size_toArray, sizeLine_eq]; omega) zD fun h₆ hs₆ hD₆ => ?_
          have off5 := off₅.mem
          refine fin (ys ++ [y]) h₆ _ (by rw [List.length_append, List.length_singleton]; exact Nat.succ_le_succ hyl) (F₅.change hs₆ hDL hD₀) (fun q hq => ?_) R₅
          rcases List.mem_cons.mp hq with rfl | hq
          · exact ⟨hs₆.extBut I oI hDI zI, Ne.symm hIL, hI₀⟩
          rcases List.mem_cons.mp hq with rfl | hq
          · exact ⟨hs₆.extBut _ oC (Ne.symm hDC) zC, hCL, hC₀⟩
          rcases List.mem_cons.mp hq with rfl | hq
          · exact ⟨hD₆.trans (congrArg some (lst_snoc ys y)), hDL, hD₀⟩
          · exact ⟨hs₆.extBut _ _ (off5 q hq).2.2 (N₅' q hq).1, (N₅' q hq).2⟩
      · have hin : i = vs.length := Nat.le_antisymm hi (Nat.not_lt.mp hlt)
        subst hin
        rw [Nat.sub_self] at R'
        refine wpAny_pyNext_list_end hh hit' hl' (by simp) fun h₂ he₂ => ?_
        have hk₂ : ∀ b o, b ≠ I → h'.get? b = some o → h₂.get? b = some o := fun b o hb e => he₂ b o hb e
        exact hRR _ _ h₂ tk _ ys news (fr_but1 F' hk₂ hIL hI₀) (fun p hp => by
          refine ⟨hk₂ _ _ ?_ (N' p hp).1, (N' p hp).2⟩
          rcases List.mem_cons.mp hp with rfl | hp
          · exact Ne.symm hDI
          · exact (off3 p hp).1) off₀.one (hn'.at' fun o e => hk₂ _ o (Ne.symm hCI) e) hC₀ hD₀ hCL hDL (Ne.symm hDC) (fun p hp => (off3 p hp).2.1) R'
    · rcases List.mem_cons.mp hp with rfl | hp
      · exact ⟨hacc, hDL, hD₀⟩
      · exact ⟨old _ _ (N p hp).1, (N p hp).2⟩
  have hl₁ : h₁.IsList l vs.toArray := hl h₁ (F.keeps old).keep fun p hp => ⟨old _ _ (N p hp).1, (N p hp).2⟩
  exact codeAny_compStart_list (loop _ rfl) (W.self 0 _ _ _ ⟨hit₁, hl₁⟩ (loop _ rfl))
def PSrc (prog : Program) (w : World) (A : Around) (h₀ : Heap) (L : Addr) (m : Str → Option Value) (env : Env) (c elt : PySem.Expr) (a b : Str) (scope : Scope) (cl : List (Str × Addr)) (Fin : Shared → List Value → List (Addr × Obj) → Prop) (xv : Value) (s₁ : Shared) : Prop :=
  ∃ (l : Addr) (vs : List Value) (G : Nat → Value → Value → Prop) (news : List (Addr × Obj)), xv = .ref l ∧ A.handled = none ∧ vs.length ≤ 1000 ∧ Fr h₀ L s₁.heap m ∧ News h₀ L s₁.heap news ∧
    (∀ h, (∀ b o, h₀.get? b = some o → h.get? b = some o) → News h₀ L h news → h.IsList l vs.toArray) ∧
    (∀ i v, vs[i]? = some v → ∃ t x y, v = .ref t ∧ G i x y ∧ ∀ h, (∀ b o, h₀.get? b = some o → h.get? b = some o) → News h₀ L h news → h.IsTuple t #[x, y]) ∧
    ∀ g : Heap, CompRestP prog w A h₀ L m env c elt a b scope cl { s₁ with heap := g } (fun nw => nw = news) G (Fin { s₁ with heap := g }) vs.length 0 [] news
theorem nm_compP {elt iter c : PySem.Expr} {a b : Str} {pa pb tp : Pos} {kk : Nat} {scope : Scope} {cl : List (Str × Addr)} {pos : Pos} {Q : Value → Shared → Prop} (F₀ : Fr h₀ L s.heap m)
    (hclos : closureFor scope env = pure cl) (hcell : ∀ y ∈ scope.names, y.2 ≠ .cell) (hkind : scope.kind = .function)
    (hnames : ∀ y ∈ scope.names, y.2 = .local → scope.names.lookup y.1 = some .local) (hxa : scope.names.lookup a = some .local) (hxb : scope.names.lookup b = some .local) (hab : ¬ a = b)
    (h : wpAny (model prog w) A (eval iter env) (NSrc (PSrc prog w A h₀ L m env c elt a b scope cl (fun s₂ => FinE h₀ L m s₂ Q))) E s)
    (hs : ∀ x, foldedSetIterable iter env x = pure x := by intro _; rfl) :
    wpAny (model prog w) A (eval (.ListComp elt [⟨.Tuple [.Name a pa, .Name b pb] kk tp, iter, [c], 0⟩] scope pos) env) Q E s := by
  rw [eval_ListComp]
  refine wpAny_comprehension_free (use := none) rfl hs hclos hkind hnames (wpAny_mono h (fun xv s₁ h₁ => ?_) fun _ _ e => e)
  obtain ⟨l, vs, G, news, rfl, hh, hsz, F, N, hl, tup, R⟩ := h₁
  have hl₁ := hl s₁.heap F.keep N
  have hlt : l < s₁.heap.objs.size := by obtain ⟨_, e, _⟩ := hl₁; exact Heap.lt_size e
  refine wpAny_pyIter_list hl₁ ?_
  refine block_P (l := l) (vs := vs) (G := G) hh (Nat.ne_of_lt hlt) hsz hl tup ⟨_, Heap.get?_push_size _ rfl, rfl, rfl⟩ hcell hkind hxa hxb hab (F.push _)
    (fun p hp => ⟨Heap.get?_push_of_some _ (N p hp).1, (N p hp).2⟩) (Nat.ne_of_lt F.ns.lt) (next_is_new F) (fun p hp => Nat.ne_of_lt (Heap.lt_size (N p hp).1)) (R _) ?_
  intro D C h tk m' ys news' F' N' o1 hn hC₀ hD₀ hCL hDL hCD offC fin
  refine ⟨m', hn, fun h'' hs'' => fin D h'' tk (F'.change hs'' hCL hC₀) (fun p hp => ?_) o1⟩
  refine ⟨hs''.extBut _ _ ?_ (N' p hp).1, (N' p hp).2⟩
  rcases List.mem_cons.mp hp with rfl | hp
  · exact Ne.symm hCD
  · exact offC p hp
theorem compRestP_ind {ct elt : PySem.Expr} {a b : Str} {scope : Scope} {cl : List (Str × Addr)} {S : List (Addr × Obj) → Prop} {G : Nat → Value → Value → Prop} {Fin : List Value → List (Addr × Obj) → Prop} {n : Nat} (Inv : Nat → List Value → List (Addr × Obj) → Prop)
    (step : ∀ i ys nw, i < n → Inv i ys nw → ∀ x y I oI C oC D m₂ h tk (E' : Value → Shared → Prop), G i x y → NsObj oC m₂ → m₂ a = some x → m₂ b = some y → Fr h₀ L h m → News h₀ L h ((I, oI) :: (C, oC) :: (D, lst ys) :: nw) → Off3 I C D nw → ((@Ne Nat I C) ∧ (@Ne Nat I D) ∧ (@Ne Nat C D)) →
      wpAny (model prog w) A (isTrue ct (compEnvC scope cl C env) (eval ct (compEnvC scope cl C env))) (fun ok s' => if ok = true then
        wpAny (model prog w) A (eval elt (compEnvC scope cl C env)) (CompEnd h₀ L m { s with heap := h, toks := tk } I oI C oC D (lst ys) S (fun y nw' => Inv (i + 1) (ys ++ [y]) nw')) E' s'
        else CompEnd h₀ L m { s with heap := h, toks := tk } I oI C oC D (lst ys) S (fun _ nw' => Inv (i + 1) ys nw') Value.none s') E' { s with heap := h, toks := tk })
    (fin : ∀ ys nw, Inv n ys nw → Fin ys nw) : ∀ (j i : Nat) (ys : List Value) (nw : List (Addr × Obj)), i + j = n → Inv i ys nw → CompRestP prog w A h₀ L m env ct elt a b scope cl s S G Fin j i ys nw := by
  intro j
  induction j with
  | zero =>
    intro i ys nw hij hI
    obtain rfl : i = n := by omega
    exact fin ys nw hI
  | succ j ih =>
    intro i ys nw hij hI
    show ∀ x y I oI C oC D m₂ h tk (E' : Value → Shared → Prop), _
    intro x y I oI C oC D m₂ h tk E' hG hC ha hb F N off ne
    refine wpAny_mono (step i ys nw (by omega) hI x y I oI C oC D m₂ h tk E' hG hC ha hb F N off ne) (fun ok s₂ hy => ?_) fun _ _ e => e
    cases ok with
    | true =>
      simp only [if_true] at hy ⊢
      exact wpAny_mono hy (fun y s₃ hz => compEnd_mono (fun nw' hr => ih (i + 1) _ nw' (by omega) hr) hz) fun _ _ e => e
    | false =>
      simp only [Bool.false_eq_true, if_false] at hy ⊢
      exact compEnd_mono (fun nw' hr => ih (i + 1) _ nw' (by omega) hr) hy
end
end Mine
end
section
open PySem PySem.W PySem.Calls PyProof.Rows PyProof.Rows.LCg
namespace Mine
theorem off1_new {h₀ h : Heap} {L D : Addr} {news : List (Addr × Obj)} (N : News h₀ L h news) (e : h.get? D = none) : Off1 D news :=
  off1_of fun p hp q => by have := (N p hp).1; rw [q, e] at this; cases this
theorem news_keep {h₀ h h' : Heap} {L : Addr} {news : List (Addr × Obj)} (N : News h₀ L h news) (k : ∀ b o, h.get? b = some o → h'.get? b = some o) : News h₀ L h' news := fun p hp => ⟨k _ _ (N p hp).1, (N p hp).2⟩
theorem news_app {h₀ h : Heap} {L : Addr} {a b : List (Addr × Obj)} (A : News h₀ L h a) (B : News h₀ L h b) : News h₀ L h (a ++ b) := fun p hp => (List.mem_append.mp hp).elim (A p) (B p)
section
variable {w : World} {mean : ExcName → Option Value} {mg mb : Str → Option Value} {dp un : Nat} {gd : Option (List Code)} {cn : Str} {cs : Scope} {a : Addr} {ccd : Value} {cl : List (Str × Addr)} {outer : List Env} {A₀ : Around} {base h₀ : Heap} {L : Addr} {m : Str → Option Value} {s : Shared} {Q E : Value → Shared → Prop}
   {l : Addr} {vs : List Value} {nn : Nat} {ps : List (Int × Int)} {news : List (Addr × Obj)}
theorem moves_call (B : Below A₀ base outer h₀) (F : Fr h₀ L s.heap m) (X : (hd.heap_39 w.params).In h₀) (T : Top hd.view_39 (looseW hd.view_39 []) mean mg mb h₀) (hk : cs.kind = .function)
   (N : News h₀ L s.heap news) (hl : h₀.get? l = some (listOf vs.toArray nn)) (hp : PairsAt h₀ vs ps) (G : GoodPairs ps) (hdp : dp + 2 < recursionLimit) (hun : un + 12 < cLine)
   (hret : ∀ (D : Addr) (us : List Value) (c : Nat) (mv : List (Int × Int)) (tl : List (Addr × Obj)) (h' : Heap) (tk' : Nat), PairsIn tl us mv → MovesOk ps mv → Fr h₀ L h' m → News h₀ L h' ((D, listOf us.toArray c) :: (news ++ tl)) → Off1 D news → OwnOff tl (news.map (·.1)) → Q (.ref D) { s with heap := h', toks := tk' }) :
   wpAny (model PySem.Challenge.rw_nm0001_01.row.prog w) (ktrTop dp un gd cn cs L a ccd cl outer) (call (.ref 19) [.ref l]) Q E s :=
  moves_ok ⟨B, F, X, T, hk⟩ ⟨_, F.keep _ _ hl, rfl, _, rfl⟩ (hp.mono (tuple_keep F.keep)) G hdp hun fun D us c mv tl h' tk' a1 a2 F' N' k fr =>
    hret D us c mv tl h' tk' a1 a2 F' (fun p hp => by
      rcases List.mem_cons.mp hp with rfl | hp
      · exact N' _ (.head _)
      · rcases List.mem_append.mp hp with hp | hp
        · exact news_keep N k p hp
        · exact N' p (.tail _ hp)) (off1_new N (fr _ (.head _))) (fun p hp b hb e => by
      obtain ⟨q, hq, rfl⟩ := List.mem_map.mp hb
      have := (N q hq).1
      rw [← e, fr p (.tail _ hp)] at this
      cases this)
theorem once_call (B : Below A₀ base outer h₀) (F : Fr h₀ L s.heap m) (X : (hd.heap_39 w.params).In h₀) (T : Top hd.view_39 (looseW hd.view_39 []) mean mg mb h₀) (hk : cs.kind = .function)
   (N : News h₀ L s.heap news) (hl : h₀.get? l = some (listOf vs.toArray nn)) (hp : PairsAt h₀ vs ps) (G : GoodPairs ps) (hdp : dp + 1 < recursionLimit) (hun : un + 8 < cLine)
   (hret : ∀ (D : Addr) (us : List Value) (c : Nat) (h' : Heap) (tk' : Nat), IntsAre us (atOnce ps cells0) → Fr h₀ L h' m → News h₀ L h' ((D, listOf us.toArray c) :: news) → Off1 D news → Q (.ref D) { s with heap := h', toks := tk' }) :
   wpAny (model PySem.Challenge.rw_nm0001_01.row.prog w) (ktrTop dp un gd cn cs L a ccd cl outer) (call (.ref 46) [.ref l]) Q E s :=
  once_ok ⟨B, F, X, T, hk⟩ ⟨_, F.keep _ _ hl, rfl, _, rfl⟩ (hp.mono (tuple_keep F.keep)) (fun p hp => by have := places_range (G.goals p hp); omega) hdp hun fun D us c h' tk' a1 F' N' k fr =>
    hret D us c h' tk' a1 F' (fun p hp => by
      rcases List.mem_cons.mp hp with rfl | hp
      · exact N' _ (.head _)
      · exact news_keep N k p hp) (off1_new N fr)
theorem turn_call {us : List Value} {c : Nat} {mv : List (Int × Int)} {tl : List (Addr × Obj)} (B : Below A₀ base outer h₀) (F : Fr h₀ L s.heap m) (X : (hd.heap_39 w.params).In h₀) (T : Top hd.view_39 (looseW hd.view_39 []) mean mg mb h₀) (hk : cs.kind = .function)
   (N : News h₀ L s.heap news) (hm : (l, listOf us.toArray c) ∈ news) (hp : PairsIn tl us mv) (hs : ∀ p ∈ tl, p ∈ news) (M : MovesOk ps mv) (hdp : dp + 1 < recursionLimit) (hun : un + 8 < cLine)
   (hret : ∀ (D : Addr) (us : List Value) (c : Nat) (h' : Heap) (tk' : Nat), IntsAre us (inTurn mv cells0) → Fr h₀ L h' m → News h₀ L h' ((D, listOf us.toArray c) :: news) → Off1 D news → Q (.ref D) { s with heap := h', toks := tk' }) :
   wpAny (model PySem.Challenge.rw_nm0001_01.row.prog w) (ktrTop dp un gd cn cs L a ccd cl outer) (call (.ref 53) [.ref l]) Q E s :=
  turn_ok ⟨B, F, X, T, hk⟩ ⟨_, (N _ hm).1, rfl, _, rfl⟩ ((hp.mono hs).at N) M.range hdp hun fun D us c h' tk' a1 F' N' k fr =>
    hret D us c h' tk' a1 F' (fun p hp => by
      rcases List.mem_cons.mp hp with rfl | hp
      · exact N' _ (.head _)
      · exact news_keep N k p hp) (off1_new N fr)
theorem rounds_call (B : Below A₀ base outer h₀) (F : Fr h₀ L s.heap m) (X : (hd.heap_39 w.params).In h₀) (T : Top hd.view_39 (looseW hd.view_39 []) mean mg mb h₀) (hk : cs.kind = .function)
   (N : News h₀ L s.heap news) (hl : h₀.get? l = some (listOf vs.toArray nn)) (hp : PairsAt h₀ vs ps) (G : GoodPairs ps) (hdp : dp + 1 < recursionLimit) (hun : un + 8 < cLine)
   (hret : ∀ (t : Tok) (h' : Heap) (tk' : Nat), Fr h₀ L h' m → News h₀ L h' news → Q (.int (rounds ps) t) { s with heap := h', toks := tk' }) :
   wpAny (model PySem.Challenge.rw_nm0001_01.row.prog w) (ktrTop dp un gd cn cs L a ccd cl outer) (call (.ref 60) [.ref l]) Q E s :=
  rounds_ok ⟨B, F, X, T, hk⟩ (F.keep _ _ hl) (hp.mono (tuple_keep F.keep)) G.nodup G.few hdp hun fun t h' tk' F' k => hret t h' tk' F' (news_keep N k)
end
section
variable {prog : Program} {w : World} {A : Around} {E : Value → Shared → Prop} {s : Shared} {h₀ h : Heap} {L l b : Addr} {m : Str → Option Value} {vs : List Value} {nn : Nat} {news : List (Addr × Obj)}
theorem nm_neSame {Q : Value → Shared → Prop} (hl : s.heap.IsList l vs.toArray) (hb : s.heap.IsList b vs.toArray) (hu : A.units < cLine) (h : Q (.bool false) s) : wpAny (model prog w) A (compareOp .NotEq (.ref l) (.ref b)) Q E s := by
  have r := SeqAt.RcNeAt.lists (A := A) (e := fun _ => true) hl hb rfl hu fun j h1 h2 => SeqAt.EqAt.same _
  have e : (!(List.range vs.toArray.size).all fun _ => true) = false := by simp
  rw [e] at r
  exact r prog w E Q h
theorem nm_isl (F : Fr h₀ L h m) (hl : h₀.get? l = some (listOf vs.toArray nn)) : h.IsList l vs.toArray := ⟨_, F.keep _ _ hl, rfl, _, rfl⟩
/-- the pair at a place -/
def Gp (ps : List (Int × Int)) (i : Nat) (x y : Value) : Prop := ∃ a b ta tb, x = .int a ta ∧ y = .int b tb ∧ ps[i]? = some (a, b)
theorem PairsIn.get {nw : List (Addr × Obj)} {vs : List Value} {ps : List (Int × Int)} (x : PairsIn nw vs ps) : ∀ {i : Nat} {v : Value}, vs[i]? = some v → ∃ t a b ta tb, v = .ref t ∧ ps[i]? = some (a, b) ∧ (t, tup2 a ta b tb) ∈ nw := by
  induction x with
  | nil => intro i v e; simp at e
  | @cons t0 _ _ _ _ _ _ ht _ ih =>
    intro i v e
    cases i with
    | zero =>
      have e' : Value.ref t0 = v := by simpa using e
      exact ⟨_, _, _, _, _, e'.symm, rfl, ht⟩
    | succ i =>
      obtain ⟨t, a, b, ta, tb, e1, e2, e3⟩ := ih (i := i) (v := v) (by simpa using e)
      exact ⟨t, a, b, ta, tb, e1, by simpa using e2, e3⟩
variable {env : Env} {s₁ : Shared} {c elt : PySem.Expr} {x y : Str} {scope : Scope} {cl : List (Str × Addr)} {Fin : Shared → List Value → List (Addr × Obj) → Prop} {ps mv : List (Int × Int)} {us : List Value} {cc : Nat} {tl : List (Addr × Obj)}
theorem PSrc.base (hh : A.handled = none) (hl : h₀.get? l = some (listOf vs.toArray nn)) (hp : PairsAt h₀ vs ps) (hz : vs.length ≤ 1000) (F : Fr h₀ L s₁.heap m) (N : News h₀ L s₁.heap news)
    (R : ∀ g : Heap, CompRestP prog w A h₀ L m env c elt x y scope cl { s₁ with heap := g } (fun nw => nw = news) (Gp ps) (Fin { s₁ with heap := g }) vs.length 0 [] news) : PSrc prog w A h₀ L m env c elt x y scope cl Fin (.ref l) s₁ :=
  ⟨l, vs, Gp ps, news, rfl, hh, hz, F, N, fun h k _ => ⟨_, k _ _ hl, rfl, _, rfl⟩, fun i v hv => by
    obtain ⟨t, a, b, ta, tb, e1, e2, e3⟩ := hp.get hv
    exact ⟨t, _, _, e1, ⟨a, b, ta, tb, rfl, rfl, e2⟩, fun h k _ => tuple_keep k _ _ e3⟩, R⟩
theorem PSrc.led (hh : A.handled = none) (hm : (l, listOf us.toArray cc) ∈ news) (hp : PairsIn tl us mv) (hs : ∀ p ∈ tl, p ∈ news) (hz : us.length ≤ 1000) (F : Fr h₀ L s₁.heap m) (N : News h₀ L s₁.heap news)
    (R : ∀ g : Heap, CompRestP prog w A h₀ L m env c elt x y scope cl { s₁ with heap := g } (fun nw => nw = news) (Gp mv) (Fin { s₁ with heap := g }) us.length 0 [] news) : PSrc prog w A h₀ L m env c elt x y scope cl Fin (.ref l) s₁ :=
  ⟨l, us, Gp mv, news, rfl, hh, hz, F, N, fun h _ N => ⟨_, (N _ hm).1, rfl, _, rfl⟩, fun i v hv => by
    obtain ⟨t, a, b, ta, tb, e1, e2, e3⟩ := hp.get hv
    exact ⟨t, _, _, e1, ⟨a, b, ta, tb, rfl, rfl, e2⟩, fun h _ N => ⟨_, (N _ (hs _ e3)).1, rfl, _, rfl⟩⟩, R⟩
theorem len_yes {p : Int × Int → Bool} {ks : List (Int × Int)} {i : Nat} {q : Int × Int} {ys : List Value} {v : Value} (h : ks[i]? = some q) (y : p q = true) (e : ys.length = ((ks.take i).filter p).length) : (ys ++ [v]).length = ((ks.take (i + 1)).filter p).length := by
  rw [List.take_add_one, h, List.filter_append, List.length_append, List.length_append, e]
  show _ = _ + (List.filter p [q]).length
  rw [List.filter_cons_of_pos y, List.filter_nil]; rfl
theorem len_no {p : Int × Int → Bool} {ks : List (Int × Int)} {i : Nat} {q : Int × Int} {ys : List Value} (h : ks[i]? = some q) (y : p q = false) (e : ys.length = ((ks.take i).filter p).length) : ys.length = ((ks.take (i + 1)).filter p).length := by
  rw [List.take_add_one, h, List.filter_append, List.length_append, e]
  show _ = _ + (List.filter p [q]).length
  rw [List.filter_cons_of_neg (by simp [y]), List.filter_nil]; rfl
end
end Mine
end
section
open PySem PySem.W PySem.Calls PyProof.Rows PyProof.Rows.LCg
namespace Mine
local macro_rules | `(tactic| tb_start) => `(tactic| repeat' (first | (k_unfold; (try dsimp only)) | walk1 | (dsimp only; walk1) | fail "no step"))
local macro_rules | `(tactic| ktr_enter) => `(tactic| (refine' nm_callC ?ps ?k1 ?k2 ?k3 ?k4 ?k5 ?kA ?kF ?kK ?k6 ?k7 ?k8 ?k9 ?kB ?kD ?kP ?_ ?c2 ?c3 ?c4; (case kA => exact rfl); (case kF => exact rfl); (case kK => assumption); (case k1 => k_asm); (case k2 => k_asm); (case k3 => k_asm); (case k4 => k_asm); (case k5 => k_asm); (case k6 => k_is); (case k7 => k_is); (case k8 => ktr_room); (case k9 => exact BindsTo.of_eq rfl); (case kB => exact rfl); (case kD => decide +kernel); (case c2 => exact rfl); (case c3 => exact rfl); (case c4 => exact rfl)))
local macro_rules | `(tactic| walk_at "call ref") => `(tactic| (k_here; k_dflt (refine' moves_call ?B ?F ?X ?T ?hk ?N ?l ?p ?G ?hdp ?hun ?_; (case B => k_asm); (case F => k_asm); (case X => k_asm); (case T => k_asm); (case hk => first | rfl | assumption); (case N => k_asm); (case l => assumption); (case p => assumption); (case G => assumption); (case hdp => ktr_room); (case hun => ktr_units)); intro D' us' c' mv' tl' h' tk' pi' mo' F' N' off' oo'; (try simp only [List.cons_append, List.nil_append] at N'); (try dsimp only [Off1] at off'); (try dsimp only [List.map] at oo')))
local macro_rules | `(tactic| walk_at "call ref") => `(tactic| (k_here; k_dflt (refine' once_call ?B ?F ?X ?T ?hk ?N ?l ?p ?G ?hdp ?hun ?_; (case B => k_asm); (case F => k_asm); (case X => k_asm); (case T => k_asm); (case hk => first | rfl | assumption); (case N => k_asm); (case l => assumption); (case p => assumption); (case G => assumption); (case hdp => ktr_room); (case hun => ktr_units)); intro D' us' c' h' tk' hi' F' N' off'; (try dsimp only [Off1] at off')))
local macro_rules | `(tactic| walk_at "call ref") => `(tactic| (k_here; k_dflt (refine' turn_call ?B ?F ?X ?T ?hk ?N ?m ?p ?s ?M ?hdp ?hun ?_; (case B => k_asm); (case F => k_asm); (case X => k_asm); (case T => k_asm); (case hk => first | rfl | assumption); (case N => k_asm); (case m => k_mem); (case p => assumption); (case s => kst_inAny); (case M => assumption); (case hdp => ktr_room); (case hun => ktr_units)); intro D' us' c' h' tk' hi' F' N' off'; (try dsimp only [Off1] at off')))
local macro_rules | `(tactic| walk_at "call ref") => `(tactic| (k_here; k_dflt (refine' rounds_call ?B ?F ?X ?T ?hk ?N ?l ?p ?G ?hdp ?hun ?_; (case B => k_asm); (case F => k_asm); (case X => k_asm); (case T => k_asm); (case hk => first | rfl | assumption); (case N => k_asm); (case l => assumption); (case p => assumption); (case G => assumption); (case hdp => ktr_room); (case hun => ktr_units)); intro t' h' tk' F' N'))
local macro_rules | `(tactic| walk_at "eval ListComp") => `(tactic| (k_here; (with_reducible show wpAny _ _ (eval (Expr.ListComp _ [Comprehension.mk (Expr.Name _ _) _ [_] 0] _ _) _) _ _ _); k_dflt (refine nm_compT (F₀ := by k_asm) (by with_unfolding_all rfl) (by decide) (by rfl) (by decide) (by rfl) ?_)))
local macro_rules | `(tactic| walk_at "eval ListComp") => `(tactic| (k_here; (with_reducible show wpAny _ _ (eval (Expr.ListComp _ [Comprehension.mk (Expr.Tuple [Expr.Name _ _, Expr.Name _ _] _ _) _ [_] 0] _ _) _) _ _ _); k_dflt (refine nm_compP (F₀ := by k_asm) (by with_unfolding_all rfl) (by decide) (by rfl) (by decide) (by rfl) (by rfl) (by decide) ?_)))
local macro_rules | `(tactic| walk_at "call builtin:len") => `(tactic| (k_here; (with_reducible show wpAny _ _ (call (Value.builtin "len") [Value.ref _]) _ _ _); k_dflt (refine' nm_len ?N ?m ?z ?_; (case N => k_asm); (case m => k_mem); (case z => omega))))
local macro_rules | `(tactic| walk_at "call type:list") => `(tactic| (k_here; (with_reducible show wpAny _ _ (call (Value.type _) [Value.ref _]) _ _ _); k_dflt (refine' list_copyK ?F ?N ?l ?_ ?z; (case F => k_asm); (case N => k_asm); (case l => exact nm_isl (by k_asm) (by assumption)); (case z => (rw [List.size_toArray, sizeLine_eq]; omega))); intro D' c' h' F' N' l1; (try k_lt l1)))
local macro_rules | `(tactic| walk_at "compareOp NotEq ref ref") => `(tactic| (k_here; k_dflt (refine' nm_neSame ?a ?b ?u ?_; (case a => first | exact nm_isl (by k_asm) (by assumption) | exact News.isList (by k_asm) (by k_mem)); (case b => exact News.isList (by k_asm) (by k_mem)); (case u => first | ktr_units | units_room))))
local macro_rules | `(tactic| walk_at "subscriptTail Name Name ref int") => `(tactic| (k_here; k_dflt (refine' nm_subInts ?a ?i ?h0 ?h1 ?z ?_ ?f; (case a => exact News.isList (by k_asm) (by k_mem)); (case i => assumption); (case h0 => omega); (case h1 => omega); (case z => omega); (case f => with_unfolding_all rfl)); intro t'))
set_option maxHeartbeats 4000000 in
theorem right_ok {w : World} {mean : ExcName → Option Value} {mg mb : Str → Option Value} {dp un : Nat} {gd : Option (List Code)} {cn : Str} {cs : Scope} {a : Addr} {ccd : Value} {cl : List (Str × Addr)} {outer : List Env} {A₀ : Around} {base h₀ : Heap} {L : Addr} {m : Str → Option Value} {s : Shared} {Q E : Value → Shared → Prop}
   {l : Addr} {vs : List Value} {nn : Nat} {ps : List (Int × Int)}
   (C : Cx w mean mg mb cs outer A₀ base h₀ L m s) (hl : s.heap.get? l = some (listOf vs.toArray nn)) (hp : PairsAt s.heap vs ps) (G : GoodPairs ps)
   (hdp : dp + 4 < recursionLimit) (hun : un + 24 < cLine)
   (hret : ∀ (h' : Heap) (tk' : Nat), Fr h₀ L h' m → (∀ b o, s.heap.get? b = some o → h'.get? b = some o) → Q (.bool true) { s with heap := h', toks := tk' }) :
   wpAny (model PySem.Challenge.rw_nm0001_01.row.prog w) (ktrTop dp un gd cn cs L a ccd cl outer) (call (.ref 65) [.ref l]) Q E s := by
  w_top off
  have : (PySem.Challenge.rw_nm0001_01 = PySem.Challenge.rw_nm0001_01) ∧ (hd.heap_39 w.params = hd.heap_39 w.params) := by k_fill; exact ⟨rfl, rfl⟩
  clear this
  obtain ⟨B, F, X, T, hk⟩ := C
  have N : News h₀ L s.heap [] := fun _ h => nomatch h
  k_dflt ktr_enter
  case ps => exact [(Str.ofString "pairs", .ref l)]
  case kP => intro _; rfl
  intro g' L' h' tk0 cells hkeep FG F' N' Y' lt' B' X' T'
  obtain ⟨oa, ob, hE, d1, d2⟩ := CellsAre.two Y'
  subst hE
  simp only [List.cons_append, List.nil_append] at N'
  have hlg := hkeep l _ hl (by simp)
  have hpg := hp.mono (tuple_keep fun b o e => hkeep b o e (by simp))
  clear hkeep lt' FG F X T B N hl hp Y'
  have hvl : vs.length ≤ 12 := by rw [hpg.length]; exact G.few
  (try dsimp only); (try k_fold)
  tb_start
  rename_i KD kc _ _ _ _ MD mus mc mv tl _ _ hpi hmo off2 hoo _ _ OD ous occ _ _ hio off1 TD tus tcc _ _ hit off0 tr _ _ TP _ lTP _ _ oDue hDue _ oAft hAft _ F1 N1 _ _ tA tB tC hRg F2 N2 hkp
  have hml : mus.length ≤ 24 := by rw [hpi.length]; exact hmo.few
  have hlT : (inTurn mv cells0).length = 32 := by rw [inTurn_len]; rfl
  have hlO : (atOnce ps cells0).length = 32 := by rw [atOnce_len]; rfl
  refine LCt.CompSrcT.range (n := 32) rfl F2 N2 hRg (small_one (by decide) (by decide) (by decide) (by decide)) rfl (by rw [sizeLine_eq]; omega) ?_
  intro g₂
  refine compRestT_ind (n := 32) (fun i ys nw => nw = (TP, ({ cls := .type "tuple", data := .seq #[.ref OD, .ref TD, .int (rounds ps : Nat) tr] } : Obj)) :: (TD, listOf tus.toArray tcc) :: (OD, listOf ous.toArray occ) :: (MD, listOf mus.toArray mc) :: (KD, listOf vs.toArray kc) :: (L' + 1 + 1, oAft) :: (L' + 1, oDue) :: tl ∧ ys = []) ?_ ?_ _ 0 [] _ (Nat.zero_add _) ⟨rfl, rfl⟩
  · rintro i ys nw hi ⟨rfl, rfl⟩ v I oI C oC D m₂ h tk E' hv hC hm F₃ N₃ off ne
    obtain ⟨t, rfl⟩ := hv
    dsimp only [Off3] at off
    obtain ⟨k, hk⟩ : ∃ k : Int, k = 0 + (i : Int) := ⟨_, rfl⟩
    rw [← hk] at hm
    have hk0 : 0 ≤ k := by omega
    have hk1 : k < 32 := by omega
    clear F1 N1 F2 N2 hRg hkp
    (try k_fold)
    tb_start
    · rename_i h5' _ _ hne
      exact absurd (hmo.cells k hk0 hk1 h5') hne
    · exact CompEnd.intro F₃ N₃ _ (fun p hp => hp) off trivial ⟨rfl, rfl⟩
    · exact CompEnd.intro F₃ N₃ _ (fun p hp => hp) off trivial ⟨rfl, rfl⟩
  · rintro ys nw ⟨rfl, rfl⟩ D5 h5 tk5 F5 N5 off5
    (try dsimp only at F5 N5 off5)
    dsimp only [Off1] at off5
    clear F1 N1 F2 N2 hRg hkp
    (try dsimp only)
    tb_start
    rename_i E1 _ F6 N6 lE
    refine PSrc.base (ps := ps) rfl hlg hpg (by omega) F6 N6 ?_
    intro g₃
    refine compRestP_ind (n := vs.length) (fun i ys nw => nw = (E1, listOf #[] 0) :: (D5, lst []) :: (TP, ({ cls := .type "tuple", data := .seq #[.ref OD, .ref TD, .int (rounds ps : Nat) tr] } : Obj)) :: (TD, listOf tus.toArray tcc) :: (OD, listOf ous.toArray occ) :: (MD, listOf mus.toArray mc) :: (KD, listOf vs.toArray kc) :: (L' + 1 + 1, oAft) :: (L' + 1, oDue) :: tl ∧ ys.length = ((ps.take i).filter fun p => !decide (p.1 = p.2)).length) ?_ ?_ _ 0 [] _ (Nat.zero_add _) ⟨rfl, rfl⟩
    · rintro i ys nw hi ⟨rfl, hys⟩ x y I oI C oC D m₂ h tk E' ⟨a', b', ta, tb, rfl, rfl, hab⟩ hC ha hb F₃ N₃ off ne
      dsimp only [Off3] at off
      clear F6 N6
      (try k_fold)
      tb_start
      · rename_i hne
        exact CompEnd.intro F₃ N₃ _ (fun p hp => hp) off rfl ⟨rfl, len_yes hab (by simpa using hne) hys⟩
      · rename_i hne
        exact CompEnd.intro F₃ N₃ _ (fun p hp => hp) off rfl ⟨rfl, len_no hab (by simpa using hne) hys⟩
    · rintro ys6 nw ⟨rfl, hys⟩ D6 h6 tk6 F7 N7 off6
      rw [hpg.length, List.take_length] at hys
      have hfl := List.length_filter_le (fun p : Int × Int => !decide (p.1 = p.2)) ps
      have hyl : ys6.length ≤ 12 := by have := G.few; omega
      have hmlen : mus.length = ys6.length + rounds ps := by rw [hpi.length, hys]; exact hmo.len
      (try dsimp only at F7 N7 off6)
      dsimp only [Off1] at off6
      clear F6 N6
      (try dsimp only)
      tb_start
      · rename_i hx
        omega
      · refine PSrc.led (cc := mc) (tl := tl) (mv := mv) (news := (D6, lst ys6) :: (E1, listOf #[] 0) :: (D5, lst []) :: (TP, ({ cls := .type "tuple", data := .seq #[.ref OD, .ref TD, .int (rounds ps : Nat) tr] } : Obj)) :: (TD, listOf tus.toArray tcc) :: (OD, listOf ous.toArray occ) :: (MD, listOf mus.toArray mc) :: (KD, listOf vs.toArray kc) :: (L' + 1 + 1, oAft) :: (L' + 1, oDue) :: tl) rfl (by k_mem) hpi (by kst_inAny) (by omega) (by k_asm) (by k_asm) ?_
        intro g₄
        refine compRestP_ind (n := mus.length) (fun i ys nw => nw = (D6, lst ys6) :: (E1, listOf #[] 0) :: (D5, lst []) :: (TP, ({ cls := .type "tuple", data := .seq #[.ref OD, .ref TD, .int (rounds ps : Nat) tr] } : Obj)) :: (TD, listOf tus.toArray tcc) :: (OD, listOf ous.toArray occ) :: (MD, listOf mus.toArray mc) :: (KD, listOf vs.toArray kc) :: (L' + 1 + 1, oAft) :: (L' + 1, oDue) :: tl ∧ ys = []) ?_ ?_ _ 0 [] _ (Nat.zero_add _) ⟨rfl, rfl⟩
        · rintro i ys nw hi ⟨rfl, rfl⟩ x y I oI C oC D m₂ h tk E' ⟨a', b', ta, tb, rfl, rfl, hab⟩ hC ha hb F₃ N₃ off ne
          dsimp only [Off3] at off
          clear F7 N7
          (try k_fold)
          tb_start
          · rename_i hne
            exact absurd hne (hmo.apart _ (List.mem_of_getElem? hab))
          · exact CompEnd.intro F₃ N₃ _ (fun p hp => hp) off rfl ⟨rfl, rfl⟩
        · rintro ys nw ⟨rfl, rfl⟩ D7 h7 tk7 F8 N8 off7
          (try dsimp only at F8 N8 off7)
          dsimp only [Off1] at off7
          clear F7 N7
          (try dsimp only)
          tb_start
          rename_i E2 _ F9 N9 lE2
          refine PSrc.led (cc := mc) (tl := tl) (mv := mv) (news := (E2, listOf #[] 0) :: (D7, lst []) :: (D6, lst ys6) :: (E1, listOf #[] 0) :: (D5, lst []) :: (TP, ({ cls := .type "tuple", data := .seq #[.ref OD, .ref TD, .int (rounds ps : Nat) tr] } : Obj)) :: (TD, listOf tus.toArray tcc) :: (OD, listOf ous.toArray occ) :: (MD, listOf mus.toArray mc) :: (KD, listOf vs.toArray kc) :: (L' + 1 + 1, oAft) :: (L' + 1, oDue) :: tl) rfl (by k_mem) hpi (by kst_inAny) (by omega) (by k_asm) (by k_asm) ?_
          intro g₅
          refine compRestP_ind (n := mus.length) (fun i ys nw => nw = (E2, listOf #[] 0) :: (D7, lst []) :: (D6, lst ys6) :: (E1, listOf #[] 0) :: (D5, lst []) :: (TP, ({ cls := .type "tuple", data := .seq #[.ref OD, .ref TD, .int (rounds ps : Nat) tr] } : Obj)) :: (TD, listOf tus.toArray tcc) :: (OD, listOf ous.toArray occ) :: (MD, listOf mus.toArray mc) :: (KD, listOf vs.toArray kc) :: (L' + 1 + 1, oAft) :: (L' + 1, oDue) :: tl ∧ ys.length = ((mv.take i).filter fun p => decide (p.1 = 5)).length) ?_ ?_ _ 0 [] _ (Nat.zero_add _) ⟨rfl, rfl⟩
          · rintro i ys nw hi ⟨rfl, hys4⟩ x y I oI C oC D m₂ h tk E' ⟨a', b', ta, tb, rfl, rfl, hab⟩ hC ha hb F₃ N₃ off ne
            dsimp only [Off3] at off
            clear F9 N9
            (try k_fold)
            tb_start
            · rename_i hne
              exact CompEnd.intro F₃ N₃ _ (fun p hp => hp) off rfl ⟨rfl, len_yes hab (by simpa using hne) hys4⟩
            · rename_i hne
              exact CompEnd.intro F₃ N₃ _ (fun p hp => hp) off rfl ⟨rfl, len_no hab (by simpa using hne) hys4⟩
          · rintro ys7 nw ⟨rfl, hys4⟩ D8 h8 tk8 F10 N10 off8
            rw [hpi.length, List.take_length, hmo.five] at hys4
            have hrl := rounds_le ps
            have hgf := G.few
            have hyl7 : ys7.length ≤ 12 := by omega
            (try dsimp only at F10 N10 off8)
            dsimp only [Off1] at off8
            clear F9 N9
            (try dsimp only)
            tb_start
            have e : ((ys7.length : Int) == ((rounds ps : Nat) : Int)) = true := by rw [hys4]; simp
            rw [e]
            refine NRet.intro [] F10 N10 (fun p hp => nomatch hp) (fun F₃ N₃ hkeep fresh => ?_)
            exact hret _ _ F₃ (fun b o e => hkeep b o e (by simp))
end Mine
end
section
open PySem PySem.W PySem.Calls PyProof.Rows PyProof.Rows.LCg
namespace Mine
theorem good_nil : GoodPairs [] := ⟨List.Pairwise.nil, fun _ h => (nomatch h), fun _ h => (nomatch h), Nat.zero_le _⟩
section
variable {w : World} {mean : ExcName → Option Value} {mg mb : Str → Option Value} {dp un : Nat} {gd : Option (List Code)} {cn : Str} {cs : Scope} {a : Addr} {ccd : Value} {cl : List (Str × Addr)} {outer : List Env} {A₀ : Around} {base h₀ : Heap} {L : Addr} {m : Str → Option Value} {s : Shared} {Q E : Value → Shared → Prop}
   {l : Addr} {vs : List Value} {nn : Nat} {ps : List (Int × Int)} {news : List (Addr × Obj)} {tl : List (Addr × Obj)}
theorem moves_call0 (B : Below A₀ base outer h₀) (F : Fr h₀ L s.heap m) (X : (hd.heap_39 w.params).In h₀) (T : Top hd.view_39 (looseW hd.view_39 []) mean mg mb h₀) (hk : cs.kind = .function)
   (N : News h₀ L s.heap news) (hm : (l, listOf ([] : List Value).toArray nn) ∈ news) (hdp : dp + 2 < recursionLimit) (hun : un + 12 < cLine)
   (hret : ∀ (D : Addr) (c : Nat) (h' : Heap) (tk' : Nat), Fr h₀ L h' m → News h₀ L h' ((D, listOf ([] : List Value).toArray c) :: news) → Off1 D news → Q (.ref D) { s with heap := h', toks := tk' }) :
   wpAny (model PySem.Challenge.rw_nm0001_01.row.prog w) (ktrTop dp un gd cn cs L a ccd cl outer) (call (.ref 19) [.ref l]) Q E s :=
  moves_ok (vs := []) ⟨B, F, X, T, hk⟩ ⟨_, (N _ hm).1, rfl, _, rfl⟩ .nil good_nil hdp hun fun D us c mv tl h' tk' a1 a2 F' N' k fr => by
    have e : mv = [] := by
      have := a2.len
      have r : rounds [] = 0 := rfl
      rw [r] at this
      exact List.eq_nil_of_length_eq_zero (by simpa using this)
    subst e
    cases a1
    exact hret D c h' tk' F' (fun p hp => by
      rcases List.mem_cons.mp hp with rfl | hp
      · exact N' _ (.head _)
      · exact news_keep N k p hp) (off1_new N (fr _ (.head _)))
theorem pairs_call {W NB : Addr} {o : Obj} {k : Int} {u : Obj → List (Addr × Obj)} {nbs : List Value} {ns : List Int} {nc : Nat} (B : Below A₀ base outer h₀) (F : Fr h₀ L s.heap m) (X : (hd.heap_39 w.params).In h₀) (T : Top hd.view_39 (looseW hd.view_39 []) mean mg mb h₀) (hk : cs.kind = .function)
   (N : News h₀ L s.heap news) (U : UpdF W o news u) (hw : IsWell o NB k) (hm : (NB, listOf nbs.toArray nc) ∈ news) (hi : IntsAre nbs ns) (hl : ns.length ≤ 40) (hne : NB ≠ W) (h0 : 0 ≤ k) (h1 : k ≤ 800) (hdp : dp + 3 < recursionLimit) (hun : un + 24 < cLine)
   (hret : ∀ (Pl : Addr) (o' : Obj) (k' : Int) (vs : List Value) (ps : List (Int × Int)) (nn : Nat) (tl : List (Addr × Obj)) (h' : Heap) (tk' : Nat), IsWell o' NB k' → 0 ≤ k' → k' ≤ k + 30 → PairsIn tl vs ps → GoodPairs ps → Fr h₀ L h' m → News h₀ L h' ((Pl, listOf vs.toArray nn) :: (u o' ++ tl)) → Q (.ref Pl) { s with heap := h', toks := tk' }) :
   wpAny (model PySem.Challenge.rw_nm0001_01.row.prog w) (ktrTop dp un gd cn cs L a ccd cl outer) (call (.ref 39) [.ref W]) Q E s :=
  pairs_ok ⟨B, F, X, T, hk⟩ (fun p hp => by rw [List.mem_singleton.mp hp]; exact N _ (updF_mem U)) hw ⟨nbs, ns, ⟨_, (N _ hm).1, rfl, _, rfl⟩, hi, hl⟩ hne h0 h1 hdp hun fun Pl o' k' vs ps nn tl h' tk' a1 a2 a3 a4 a5 F' N' kk =>
    hret Pl o' k' vs ps nn tl h' tk' a1 a2 a3 a4 a5 F' fun p hp => by
      have NU := news_back U N (fun q hq => N' q (by rw [List.mem_singleton.mp hq]; exact .head _)) kk
      rcases List.mem_cons.mp hp with rfl | hp
      · exact N' _ (.tail _ (.head _))
      · rcases List.mem_append.mp hp with hp | hp
        · exact NU p hp
        · exact N' p (.tail _ (.tail _ hp))
theorem right_call (B : Below A₀ base outer h₀) (F : Fr h₀ L s.heap m) (X : (hd.heap_39 w.params).In h₀) (T : Top hd.view_39 (looseW hd.view_39 []) mean mg mb h₀) (hk : cs.kind = .function)
   (N : News h₀ L s.heap news) (hm : (l, listOf vs.toArray nn) ∈ news) (hp : PairsIn tl vs ps) (hs : ∀ p ∈ tl, p ∈ news) (G : GoodPairs ps) (hdp : dp + 4 < recursionLimit) (hun : un + 24 < cLine)
   (hret : ∀ (h' : Heap) (tk' : Nat), Fr h₀ L h' m → News h₀ L h' news → Q (.bool true) { s with heap := h', toks := tk' }) :
   wpAny (model PySem.Challenge.rw_nm0001_01.row.prog w) (ktrTop dp un gd cn cs L a ccd cl outer) (call (.ref 65) [.ref l]) Q E s :=
  right_ok ⟨B, F, X, T, hk⟩ (N _ hm).1 ((hp.mono hs).at N) G hdp hun fun h' tk' F' k => hret h' tk' F' (news_keep N k)
end
end Mine
end
section
open PySem PySem.W PySem.Calls PyProof.Rows PyProof.Rows.LCg
namespace Mine
local macro_rules | `(tactic| tb_start) => `(tactic| repeat' (first | (k_unfold; (try dsimp only)) | walk1 | (dsimp only; walk1) | fail "no step"))
local macro_rules | `(tactic| walk_at "exec For Name Call cons nil") => `(tactic| (k_here; refine nm_for ?_ ?hs; (case hs => intro _; with_unfolding_all rfl)))
local macro_rules | `(tactic| walk_at "compareOp NotEq ref ref") => `(tactic| (k_here; k_dflt (refine' nm_neSame ?a ?b ?u ?_; (case a => first | exact nm_isl (by k_asm) (by assumption) | exact News.isList (by k_asm) (by k_mem)); (case b => exact News.isList (by k_asm) (by k_mem)); (case u => first | ktr_units | units_room))))
local macro_rules | `(tactic| walk_at "call ref") => `(tactic| (k_here; k_dflt (refine' moves_call0 ?B ?F ?X ?T ?hk ?N ?m ?hdp ?hun ?_; (case B => k_asm); (case F => k_asm); (case X => k_asm); (case T => k_asm); (case hk => first | rfl | assumption); (case N => k_asm); (case m => k_mem); (case hdp => ktr_room); (case hun => ktr_units)); intro D' c' h' tk' F' N' off'; (try dsimp only [Off1] at off')))
local macro_rules | `(tactic| walk_at "call ref") => `(tactic| (k_here; k_dflt (refine' pairs_call ?B ?F ?X ?T ?hk ?N ?U ?hw ?m ?i ?l ?ne ?h0 ?h1 ?hdp ?hun ?_; (case B => k_asm); (case F => k_asm); (case X => k_asm); (case T => k_asm); (case hk => first | rfl | assumption); (case N => k_asm); (case U => k_updF); (case hw => assumption); (case m => k_mem); (case i => assumption); (case l => assumption); (case ne => assumption); (case h0 => omega); (case h1 => omega); (case hdp => ktr_room); (case hun => ktr_units)); intro P' o' k' vs' ps' nn' tl' h' tk' hw' hk0' hk1' pi' G' F' N'; (try dsimp only at N'); (try simp only [List.cons_append, List.nil_append] at N')))
local macro_rules | `(tactic| walk_at "call ref") => `(tactic| (k_here; k_dflt (refine' right_call ?B ?F ?X ?T ?hk ?N ?m ?p ?s ?G ?hdp ?hun ?_; (case B => k_asm); (case F => k_asm); (case X => k_asm); (case T => k_asm); (case hk => first | rfl | assumption); (case N => k_asm); (case m => k_mem); (case p => assumption); (case s => kst_inAny); (case G => assumption); (case hdp => ktr_room); (case hun => ktr_units)); intro h' tk' F' N'))
structure TS where
  o : Obj
set_option maxHeartbeats 4000000 in
theorem top_holds : PySem.Challenge.rw_nm0001_01.Holds := hd (by
  w_top off
  k_go0
  all_goals try k_fold
  tb_start
  rename_i SD ws _ hws _ _ _ _ _ g hys _ NB _ tkN oN WD _ lW _ _ E0 _ _ _ _ MD mc _ _ offM E1 _ F1 N1 lE _ _ tA tB tC hRg F2 N2 hkp
  obtain ⟨nums, hnums, hnl⟩ : ∃ nums, IntsAre ys nums ∧ nums.length ≤ 40 := ⟨_, hys, by rw [List.length_map, List.length_take]; exact Nat.min_le_left _ _⟩
  clear hys
  have hnw : NB ≠ WD := neN (by omega)
  refine NFor.rangeN (n := 3) (fun c : TS => [(WD, c.o), (NB, listOf ys.toArray ys.length)]) (fun _ => [(Str.ofString "well", .ref WD)]) (fun i c => ∃ k : Int, IsWell c.o NB k ∧ 0 ≤ k ∧ k ≤ 30 * (i : Int)) ⟨_⟩ rfl hRg (small_one (by decide) (by decide) (by decide) (by decide)) rfl F2 (news_sub N2 (by kst_inAny)) ?_ ?_ rfl rfl ?_ ?_
  · kst_all
  · exact ⟨0, ⟨_, _, _, _, rfl, by decide, by decide⟩, by decide, by decide⟩
  · rintro i ⟨o⟩ h tk u I oI t hi ⟨k, hw, hk0, hk1⟩ F₃ N₃ off
    dsimp only at hw F₃ N₃ off
    dsimp only [Off1] at off
    have hk2 : k ≤ 800 := by omega
    clear F1 N1 F2 N2 hRg hkp
    (try k_fold)
    tb_start
    rename_i P' o5 k5 vs5 ps5 nn5 tl5 _ _ hw5 hk50 hk51 hpi5 G5 _ _ h6 tk6 F6 N6
    refine NEnd.intro ⟨o5⟩ F6 N6 (by (try dsimp only); kst_inAny) ?_ ?_ ?_
    · intro q hq
      rw [List.mem_singleton.mp hq]
      exact ⟨off.1, off.2.1, trivial⟩
    · kst_all
    · exact ⟨k5, hw5, hk50, by omega⟩
  · rintro ⟨o⟩ h tk u ⟨k, hw, hk0, hk1⟩ F₃ N₃
    dsimp only at hw F₃ N₃
    clear F1 N1 F2 N2 hRg hkp
    (try dsimp only)
    tb_start
    dsimp only
    first | walk1 | k_steps)
end Mine
end
theorem PySem.Challenge.cw_nm0001_01_holds : PySem.Challenge.rw_nm0001_01.Holds := by
  exact Mine.top_holds
