import PyProof.Rows.All
import Wide.All
import OpenK.AllK
import Wide.FinOn
import PySem.Challenge.RW_np0049_01
open PySem PySem.W PyProof.Rows
set_option Elab.async false
set_option maxRecDepth 100000
set_option maxHeartbeats 1000000
namespace Mine
local macro_rules | `(tactic| walk_at $s:str) => `(tactic| k_extra $s)
-- KbComp
section
set_option maxRecDepth 100000
set_option maxHeartbeats 8000000
open PySem.Spec PySem.Calls PyProof.Rows.LCg
section
variable {prog : Program} {w : World} {A : Around} {E : Value → Shared → Prop} {s : Shared} {h₀ : Heap} {L : Addr} {m : Str → Option Value} {env : Env}

/-- a test that may be lacking -/
def CTest (prog : Program) (w : World) (A : Around) (c : Option Expr) (env : Env) (Y N : Shared → Prop) (E : Value → Shared → Prop) (s : Shared) : Prop :=
  match c with
  | none => Y s
  | some c => wpAny (model prog w) A (isTrue c env (eval c env)) (fun ok s' => if ok = true then Y s' else N s') E s
theorem CTest.mono {c : Option Expr} {Y N Y' N' : Shared → Prop} (h : CTest prog w A c env Y N E s) (hy : ∀ s, Y s → Y' s) (hn : ∀ s, N s → N' s) : CTest prog w A c env Y' N' E s := by
  cases c with
  | none => exact hy _ h
  | some c =>
    refine wpAny_mono h (fun ok s' h' => ?_) fun _ _ e => e
    cases ok
    · exact hn _ h'
    · exact hy _ h'

theorem cloop {elt tgt iter : Expr} {c : Option Expr} {scope : Scope} {pos : Pos} {it acc : Value} {R : Result → Shared → Prop} (I : Nat → Shared → Prop)
    (turn : ∀ n s, I n s → wpAny (model prog w) A (pyNext it) (fun r s₁ => match r with
      | none => R (.ok .next) s₁
      | some v => wpAny (model prog w) A (letOwnedTupleGo tgt it v) (fun _ s₀ => wpAny (model prog w) A (assign tgt env v) (fun _ s₂ =>
          CTest prog w A c env (fun s₃ => wpAny (model prog w) A (eval elt env) (fun x s₄ =>
            wpAny (model prog w) A (call (.builtin "list.append") [acc, x]) (fun _ s₅ => ∃ m, m < n ∧ I m s₅) (notedBy (model prog w) A env fun e s' => R (.error e) s') s₄) (notedBy (model prog w) A env fun e s' => R (.error e) s') s₃)
            (fun s₃ => ∃ m, m < n ∧ I m s₃) (notedBy (model prog w) A env fun e s' => R (.error e) s') s₂)
          (notedBy (model prog w) A env fun e s' => R (.error e) s') s₀) (notedBy (model prog w) A env fun e s' => R (.error e) s') s₁) (notedBy (model prog w) A env fun e s' => R (.error e) s') s)
    (n : Nat) (h : I n s) : codeAny (model prog w) A (.compLoop (.ListComp elt [⟨tgt, iter, c.toList, 0⟩] scope pos) 0 it acc env) R s := by
  cases c with
  | none => exact kcp_loop I turn n h
  | some c => exact kct_loop I turn n h

/-- a source that a block goes over: the names xs hold, at turn i, what P i says -/
structure CSrc (prog : Program) (w : World) (A : Around) (tgt : Expr) (xs : List Str) (I : Addr) (fp wr : List Addr) (n : Nat) (P : Nat → (Str → Option Value) → Prop) (St : Nat → Heap → Prop) : Prop where
  sub : ∀ b ∈ wr, b ∈ fp
  frame : ∀ i h h', St i h → (∀ b ∈ fp, ∀ o, h.get? b = some o → h'.get? b = some o) → St i h'
  item : ∀ i (s : Shared) (cenv : Env) (m' : Str → Option Value) (Q : Unit → Shared → Prop) (E : Value → Shared → Prop), i < n → St i s.heap → s.heap.Ns cenv.locals m' → cenv.locals ∉ fp →
    (∀ x ∈ xs, cenv.kindOf x = some .local) → (cenv.scope.kind == .class || (cenv.scope.kind == .module && cenv.locals != cenv.globals)) = false →
    (∀ h' tk m'', h'.Ns cenv.locals m'' → P i m'' → St (i + 1) h' → (∀ b o, b ∉ wr → b ≠ cenv.locals → s.heap.get? b = some o → h'.get? b = some o) → Q () { s with heap := h', toks := tk }) →
    wpAny (model prog w) A (pyNext (.ref I)) (fun r s₁ => match r with
      | none => False
      | some v => wpAny (model prog w) A (letOwnedTupleGo tgt (.ref I) v) (fun _ s₀ => wpAny (model prog w) A (assign tgt cenv v) Q E s₀) E s₁) E s
  done : ∀ (s : Shared) (Q : Option Value → Shared → Prop) (E : Value → Shared → Prop), St n s.heap →
    (∀ h' tk, (∀ b o, b ∉ wr → s.heap.get? b = some o → h'.get? b = some o) → Q none { s with heap := h', toks := tk }) → wpAny (model prog w) A (pyNext (.ref I)) Q E s
  self : ∀ i (s : Shared) (Q : Value → Shared → Prop) (E : Value → Shared → Prop), St i s.heap → Q (.ref I) s → wpAny (model prog w) A (pyIter (.ref I)) Q E s

/-- what a turn's end keeps -/
def CEnd (h₀ : Heap) (L : Addr) (m : Str → Option Value) (s₁ : Shared) (keep : List (Addr × Obj)) (off : Addr → Prop) (rest : Value → List (Addr × Obj) → Prop) (y : Value) (s₂ : Shared) : Prop :=
  ∃ h' tk news', s₂ = { s₁ with heap := h', toks := tk } ∧ Fr h₀ L h' m ∧ News h₀ L h' (keep ++ news') ∧ (∀ p ∈ news', off p.1) ∧ rest y news'

open Classical in
noncomputable def ownN (fp : List Addr) (h₀ h : Heap) : List (Addr × Obj) := fp.filterMap fun b => match h.get? b with
  | some o => if h₀.get? b = none then some (b, o) else none
  | none => none
theorem ownN_sub {fp : List Addr} {h₀ h : Heap} : ∀ p ∈ ownN fp h₀ h, p.1 ∈ fp ∧ h.get? p.1 = some p.2 ∧ h₀.get? p.1 = none := by
  intro p hp
  obtain ⟨b, hb, e⟩ := List.mem_filterMap.mp hp
  split at e
  · rename_i o ho
    split at e
    · cases e; exact ⟨hb, ho, by assumption⟩
    · cases e
  · cases e
theorem mem_ownN {fp : List Addr} {h₀ h : Heap} {b : Addr} {o : Obj} (hb : b ∈ fp) (h1 : h₀.get? b = none) (h2 : h.get? b = some o) : (b, o) ∈ ownN fp h₀ h :=
  List.mem_filterMap.mpr ⟨b, hb, by rw [h2]; simp [h1]⟩

theorem cblock {elt tgt iter : Expr} {c : Option Expr} {xs : List Str} {scope : Scope} {cl : List (Str × Addr)} {pos : Pos} {s₂ : Shared} {I : Addr} {fp wr : List Addr} {n : Nat} {P : Nat → (Str → Option Value) → Prop} {St : Nat → Heap → Prop} {news : List (Addr × Obj)}
    {RR : Value → Addr → Result → Shared → Prop} (J : Nat → List Value → List (Addr × Obj) → Prop)
    (W : CSrc prog w A tgt xs I fp wr n P St) (hsz : n ≤ sizeLine)
    (hcell : ∀ y ∈ scope.names, y.2 ≠ .cell) (hkind : scope.kind = .function) (hxs : ∀ x ∈ xs, scope.names.lookup x = some .local) (hst : St 0 s₂.heap) (hfp : ∀ b ∈ fp, b < s₂.heap.objs.size)
    (F : Fr h₀ L s₂.heap m) (N : News h₀ L s₂.heap news) (hL : L ∉ fp) (hwr : ∀ b ∈ wr, h₀.get? b = none) (off : ∀ p ∈ news, p.1 ∉ wr) (hJ : J 0 [] news)
    (turn : ∀ i ys news₁ own C oC D m₂ h tk (E' : Value → Shared → Prop), (i < n ∧ (∀ b ∈ fp, h₀.get? b = none → (∃ o, h.get? b = some o) → ∃ o, (b, o) ∈ own) ∧ St (i + 1) h) → ys.length ≤ i → P i m₂ → J i ys news₁ → (∀ p ∈ own, p.1 ∈ fp) → (∀ p ∈ news₁, p.1 ∉ wr ∧ p.1 ≠ C ∧ p.1 ≠ D) → C ∉ fp → D ∉ fp → C ≠ D → NsObj oC m₂ → Fr h₀ L h m →
      News h₀ L h ((own ++ [(C, oC), (D, lst ys)]) ++ news₁) →
      CTest prog w A c (compEnvC scope cl C env) (fun s' => wpAny (model prog w) A (eval elt (compEnvC scope cl C env)) (CEnd h₀ L m { s₂ with heap := h, toks := tk } (own ++ [(C, oC), (D, lst ys)]) (fun a => a ∉ wr ∧ a ≠ C ∧ a ≠ D) (fun y news' => J (i + 1) (ys ++ [y]) news')) E' s')
        (CEnd h₀ L m { s₂ with heap := h, toks := tk } (own ++ [(C, oC), (D, lst ys)]) (fun a => a ∉ wr ∧ a ≠ C ∧ a ≠ D) (fun _ news' => J (i + 1) ys news') .none) E' { s₂ with heap := h, toks := tk })
    (hRR : ∀ D C h tk m' ys news', Fr h₀ L h m → News h₀ L h ((D, lst ys) :: news') → (∀ p ∈ news', p.1 ≠ D) → h.Ns C m' → h₀.get? C = none → h₀.get? D = none → C ≠ L → D ≠ L → C ≠ D → (∀ p ∈ news', p.1 ≠ C) → J n ys news' → RR (.ref D) C (.ok .next) { s₂ with heap := h, toks := tk }) :
    wpAny (model prog w) A (newList []) (fun acc s₃ => wpAny (model prog w) A (newFunctionEnv scope env.globals cl [] env.qual none .none (some env)) (fun cenv s₄ =>
      codeAny (model prog w) A (.compStart (.ListComp elt [⟨tgt, iter, c.toList, 0⟩] scope pos) 0 (.ref I) acc { cenv with scope := relabel scope env }) (RR acc cenv.locals) s₄) E s₃) E s₂ := by
  refine wpAny_newObj_type (wpAny_newFunctionEnv hcell (by intro y hy; simp at hy) (fun h₁ hns₁ hsb₁ => ?_) hkind)
  dsimp only at hns₁ hsb₁ ⊢
  generalize hH2 : s₂.heap.push { cls := .type "list", dict := none, data := .seq ([] : List Value).toArray } = H2 at hns₁ hsb₁ ⊢
  have hC : H2.objs.size = s₂.heap.objs.size + 1 := by rw [← hH2, Heap.size_push]
  have hDC : s₂.heap.objs.size ≠ H2.objs.size := by rw [hC]; exact Nat.ne_of_lt (Nat.lt_succ_self _)
  have below : ∀ b, b < s₂.heap.objs.size → b ≠ H2.objs.size ∧ b ≠ s₂.heap.objs.size := fun b hb => ⟨by rw [hC]; exact Nat.ne_of_lt (Nat.lt_succ_of_lt hb), Nat.ne_of_lt hb⟩
  have hDf : s₂.heap.objs.size ∉ fp := fun hm => Nat.lt_irrefl _ (hfp _ hm)
  have hCf : H2.objs.size ∉ fp := fun hm => by have := hfp _ hm; rw [hC] at this; exact Nat.lt_irrefl _ (Nat.lt_of_succ_lt this)
  have old : ∀ b o, s₂.heap.get? b = some o → h₁.get? b = some o := fun b o e => hsb₁.extBut b o (below b (Heap.lt_size e)).1 (Heap.get?_push_of_some _ (hH2 ▸ Heap.get?_push_of_some _ e))
  have hacc : h₁.get? s₂.heap.objs.size = some (lst []) := hsb₁.extBut _ _ hDC (Heap.get?_push_of_some _ (hH2 ▸ Heap.get?_push_size _ rfl))
  have hst₁ : St 0 h₁ := W.frame _ _ _ hst fun b _ o e => old b o e
  have fresh₀ : ∀ a, s₂.heap.objs.size ≤ a → h₀.get? a = none := fun a ha => by
    cases e : h₀.get? a with
    | none => rfl
    | some o' => exact absurd (Heap.lt_size (F.keep a o' e)) (Nat.not_lt.mpr ha)
  have hD₀ : h₀.get? s₂.heap.objs.size = none := fresh₀ _ (Nat.le_refl _)
  have hC₀ : h₀.get? H2.objs.size = none := fresh₀ _ (by rw [hC]; exact Nat.le_succ _)
  have hLlt : L < s₂.heap.objs.size := F.ns.lt
  have hDL : s₂.heap.objs.size ≠ L := Ne.symm (below L hLlt).2
  have hCL : H2.objs.size ≠ L := Ne.symm (below L hLlt).1
  have hwf : ∀ b, b ∉ fp → b ∉ wr := fun b hb h => hb (W.sub _ h)
  have hCw := hwf _ hCf
  have hDw := hwf _ hDf
  have hLw := hwf _ hL
  have off₀ : ∀ p ∈ news, p.1 ∉ wr ∧ p.1 ≠ H2.objs.size ∧ p.1 ≠ s₂.heap.objs.size := fun p hp => ⟨off p hp, (below _ (Heap.lt_size (N p hp).1)).1, (below _ (Heap.lt_size (N p hp).1)).2⟩
  have frB : ∀ {h h' : Heap}, Fr h₀ L h m → (∀ b o, b ∉ wr → b ≠ H2.objs.size → h.get? b = some o → h'.get? b = some o) → Fr h₀ L h' m := fun F hk =>
    ⟨F.ns.at' fun o e => hk L o hLw (Ne.symm hCL) e, fun b o e => hk b o (fun hm => by rw [hwr b hm] at e; cases e) (fun q => by rw [q, hC₀] at e; cases e) (F.keep b o e), F.above⟩
  have loop : ∀ s₃ : Shared, s₃ = { s₂ with heap := h₁, toks := s₂.toks + ([] : List (Str × Value)).length } →
      codeAny (model prog w) A (.compLoop (.ListComp elt [⟨tgt, iter, c.toList, 0⟩] scope pos) 0 (.ref I) (.ref s₂.heap.objs.size) (compEnvC scope cl H2.objs.size env))
        (RR (.ref s₂.heap.objs.size) H2.objs.size) s₃ := by
    rintro s₃ rfl
    refine cloop
      (fun k s' => ∃ h' tk i ys m' news', s' = { s₂ with heap := h', toks := tk } ∧ i ≤ n ∧ k = n + 1 - i ∧ ys.length ≤ i ∧ St i h' ∧ Fr h₀ L h' m ∧ h'.Ns H2.objs.size m' ∧ News h₀ L h' ((s₂.heap.objs.size, lst ys) :: news') ∧
        (∀ p ∈ news', p.1 ∉ wr ∧ p.1 ≠ H2.objs.size ∧ p.1 ≠ s₂.heap.objs.size) ∧ J i ys news') ?_ (n + 1)
      ⟨h₁, _, 0, [], _, news, rfl, Nat.zero_le _, rfl, Nat.le_refl _, hst₁, F.keeps old, hns₁, fun p hp => ?_, off₀, hJ⟩
    · rintro k s' ⟨h', tk, i, ys, m', news', rfl, hi, rfl, hyl, hst', F', hn', N', off', hJ'⟩
      by_cases hlt : i < n
      · refine wpAny_mono (W.item i _ (compEnvC scope cl H2.objs.size env) m' _ _ hlt hst' hn' hCf (fun x hx => lookup_relabel_local (hxs x hx)) (by simp [compEnvC, relabel, hkind]) (fun h₃ tk₃ m₃ hn₃ hP hst₃ hk₃ => ?_)) (fun r s₁ hr => by cases r with
          | none => exact hr.elim
          | some v => exact hr) fun _ _ e => e
        have F₃ : Fr h₀ L h₃ m := frB F' hk₃
        obtain ⟨oC, heC, hoC⟩ := ns_obj hn₃
        have N₃ : News h₀ L h₃ (ownN fp h₀ h₃ ++ [(H2.objs.size, oC), (s₂.heap.objs.size, lst ys)] ++ news') := fun p hp => by
          rcases List.mem_append.mp hp with hp | hp
          · rcases List.mem_append.mp hp with hp | hp
            · obtain ⟨a, b, d⟩ := ownN_sub p hp
              exact ⟨b, fun q => hL (q ▸ a), d⟩
            · rcases List.mem_cons.mp hp with rfl | hp
              · exact ⟨heC, hCL, hC₀⟩
              · rw [List.mem_singleton.mp hp]
                exact ⟨hk₃ _ _ hDw hDC (N' _ (List.mem_cons_self)).1, hDL, hD₀⟩
          · have z := N' p (List.mem_cons_of_mem _ hp)
            exact ⟨hk₃ _ _ (off' p hp).1 (off' p hp).2.1 z.1, z.2⟩
        have R' := turn i ys news' (ownN fp h₀ h₃) H2.objs.size oC s₂.heap.objs.size m₃ h₃ tk₃ (notedBy (model prog w) A (compEnvC scope cl H2.objs.size env) fun e s' => RR (.ref s₂.heap.objs.size) H2.objs.size (.error e) s') ⟨hlt, fun b hb h0 ⟨o, ho⟩ => ⟨o, mem_ownN hb h0 ho⟩, hst₃⟩ hyl hP hJ' (fun p hp => (ownN_sub p hp).1) off' hCf hDf (Ne.symm hDC) hoC F₃ N₃
        have stK : ∀ h₄ news₄, Fr h₀ L h₄ m → News h₀ L h₄ (ownN fp h₀ h₃ ++ [(H2.objs.size, oC), (s₂.heap.objs.size, lst ys)] ++ news₄) → St (i + 1) h₄ := fun h₄ news₄ F₄ N₄ => by
          refine W.frame _ _ _ hst₃ fun b hb o e => ?_
          cases q : h₀.get? b with
          | none => exact (N₄ (b, o) (List.mem_append_left _ (List.mem_append_left _ (mem_ownN hb q e)))).1
          | some o' =>
            have e' := F₃.keep b o' q
            rw [e] at e'
            rw [Option.some.inj e']
            exact F₄.keep b o' q
        refine CTest.mono R' (fun s₄ h₄ => wpAny_mono h₄ (fun y s₅ h₅ => ?_) fun _ _ e => e) (fun s₄ h₄ => ?_)
        · obtain ⟨h₄, tk₄, news₄, rfl, F₄, N₄, off₄, hJ₄⟩ := h₅
          have zC := (N₄ (H2.objs.size, oC) (by simp)).1
          have zD := (N₄ (s₂.heap.objs.size, lst ys) (by simp)).1
          have N₄' : News h₀ L h₄ news₄ := fun p hp => N₄ p (List.mem_append_right _ hp)
          have hst₄ := stK h₄ news₄ F₄ N₄
          refine append_at (hsz := by show ys.toArray.size ≤ sizeLine; rw [List.size_toArray]; exact Nat.le_trans (Nat.le_trans hyl hi) hsz) zD fun h₅ hs₅ hD₅ => ?_
          refine ⟨n + 1 - (i + 1), by omega, h₅, tk₄, i + 1, ys ++ [y], _, news₄, rfl, hlt, rfl, by rw [List.length_append, List.length_singleton]; exact Nat.succ_le_succ hyl, W.frame _ _ _ hst₄ fun b hb o e => hs₅.extBut b o (fun q => hDf (q ▸ hb)) e, F₄.change hs₅ hDL hD₀,
            (hoC.ns zC).sameBut hs₅ (Ne.symm hDC), fun p hp => ?_, off₄, hJ₄⟩
          rcases List.mem_cons.mp hp with rfl | hp
          · exact ⟨hD₅.trans (congrArg some (lst_snoc ys y)), hDL, hD₀⟩
          · exact ⟨hs₅.extBut _ _ (off₄ p hp).2.2 (N₄' p hp).1, (N₄' p hp).2⟩
        · obtain ⟨h₅, tk₄, news₄, rfl, F₄, N₄, off₄, hJ₄⟩ := h₄
          have zC := (N₄ (H2.objs.size, oC) (by simp)).1
          have zD := (N₄ (s₂.heap.objs.size, lst ys) (by simp))
          refine ⟨n + 1 - (i + 1), by omega, h₅, tk₄, i + 1, ys, _, news₄, rfl, hlt, rfl, Nat.le_succ_of_le hyl, stK h₅ news₄ F₄ N₄, F₄, hoC.ns zC, fun p hp => ?_, off₄, hJ₄⟩
          rcases List.mem_cons.mp hp with rfl | hp
          · exact zD
          · exact N₄ p (List.mem_append_right _ hp)
      · obtain rfl : i = n := Nat.le_antisymm hi (Nat.not_lt.mp hlt)
        refine W.done _ _ _ hst' fun h₂ tk₂ hk₂ => ?_
        have F₂ := frB F' fun b o hb _ e => hk₂ b o hb e
        refine hRR _ _ h₂ tk₂ _ ys news' F₂ (fun p hp => ?_) (fun p hp => (off' p hp).2.2) (hn'.at' fun o e => hk₂ _ o hCw e) hC₀ hD₀ hCL hDL (Ne.symm hDC) (fun p hp => (off' p hp).2.1) hJ'
        have z := N' p hp
        refine ⟨hk₂ _ _ ?_ z.1, z.2⟩
        rcases List.mem_cons.mp hp with rfl | hp
        · exact hDw
        · exact (off' p hp).1
    · rcases List.mem_cons.mp hp with rfl | hp
      · exact ⟨hacc, hDL, hD₀⟩
      · exact ⟨old _ _ (N p hp).1, (N p hp).2⟩
  exact codeAny_compStart_list (loop _ rfl) (W.self 0 _ _ _ hst₁ (loop _ rfl))

/-- a block at its source -/
def CompAtU (upd : Addr → Str → Option Value) (prog : Program) (w : World) (A : Around) (h₀ : Heap) (L : Addr) (m : Str → Option Value) (env : Env) (elt tgt : Expr) (c : Option Expr) (xs : List Str) (scope : Scope) (cl : List (Str × Addr)) (Q : Value → Shared → Prop) (it : Value) (s₂ : Shared) : Prop :=
  ∃ (I : Addr) (fp wr : List Addr) (n : Nat) (P : Nat → (Str → Option Value) → Prop) (St : Nat → Heap → Prop) (news : List (Addr × Obj)) (J : Nat → List Value → List (Addr × Obj) → Prop),
    it = .ref I ∧ CSrc prog w A tgt xs I fp wr n P St ∧ n ≤ sizeLine ∧ St 0 s₂.heap ∧ (∀ b ∈ fp, b < s₂.heap.objs.size) ∧ Fr h₀ L s₂.heap m ∧ News h₀ L s₂.heap news ∧ L ∉ fp ∧ (∀ b ∈ wr, h₀.get? b = none) ∧ (∀ p ∈ news, p.1 ∉ wr) ∧ J 0 [] news ∧
    (∀ i ys news₁ own C oC D m₂ h tk (E' : Value → Shared → Prop), (i < n ∧ (∀ b ∈ fp, h₀.get? b = none → (∃ o, h.get? b = some o) → ∃ o, (b, o) ∈ own) ∧ St (i + 1) h) → ys.length ≤ i → P i m₂ → J i ys news₁ → (∀ p ∈ own, p.1 ∈ fp) → (∀ p ∈ news₁, p.1 ∉ wr ∧ p.1 ≠ C ∧ p.1 ≠ D) → C ∉ fp → D ∉ fp → C ≠ D → NsObj oC m₂ → Fr h₀ L h m →
      News h₀ L h ((own ++ [(C, oC), (D, lst ys)]) ++ news₁) →
      CTest prog w A c (compEnvC scope cl C env) (fun s' => wpAny (model prog w) A (eval elt (compEnvC scope cl C env)) (CEnd h₀ L m { s₂ with heap := h, toks := tk } (own ++ [(C, oC), (D, lst ys)]) (fun a => a ∉ wr ∧ a ≠ C ∧ a ≠ D) (fun y news' => J (i + 1) (ys ++ [y]) news')) E' s')
        (CEnd h₀ L m { s₂ with heap := h, toks := tk } (own ++ [(C, oC), (D, lst ys)]) (fun a => a ∉ wr ∧ a ≠ C ∧ a ≠ D) (fun _ news' => J (i + 1) ys news') .none) E' { s₂ with heap := h, toks := tk }) ∧
    ∀ D h tk ys news', Fr h₀ L h (upd D) → News h₀ L h ((D, lst ys) :: news') → (∀ p ∈ news', p.1 ≠ D) → J n ys news' → Q (.ref D) { s₂ with heap := h, toks := tk }
abbrev CompAt (prog : Program) (w : World) (A : Around) (h₀ : Heap) (L : Addr) (m : Str → Option Value) (env : Env) (elt tgt : Expr) (c : Option Expr) (xs : List Str) (scope : Scope) (cl : List (Str × Addr)) (Q : Value → Shared → Prop) (it : Value) (s₂ : Shared) : Prop :=
  CompAtU (fun _ => m) prog w A h₀ L m env elt tgt c xs scope cl Q it s₂

theorem comp_eval {elt tgt iter : Expr} {c : Option Expr} {xs : List Str} {scope : Scope} {cl : List (Str × Addr)} {pos : Pos} {Q : Value → Shared → Prop} (_F₀ : Fr h₀ L s.heap m)
    (hclos : closureFor scope env = pure cl) (hcell : ∀ y ∈ scope.names, y.2 ≠ .cell) (hkind : scope.kind = .function)
    (hnames : ∀ y ∈ scope.names, y.2 = .local → scope.names.lookup y.1 = some .local) (hxs : ∀ x ∈ xs, scope.names.lookup x = some .local)
    (h : wpAny (model prog w) A (eval iter env) (fun xv s₁ => wpAny (model prog w) A (pyIter xv) (fun it s₂ => CompAt prog w A h₀ L m env elt tgt c xs scope cl Q it s₂) E s₁) E s)
    (hs : ∀ x, foldedSetIterable iter env x = pure x := by intro _; rfl) :
    wpAny (model prog w) A (eval (.ListComp elt [⟨tgt, iter, c.toList, 0⟩] scope pos) env) Q E s := by
  rw [eval_ListComp]
  refine wpAny_comprehension_free (use := none) rfl hs hclos hkind hnames (wpAny_mono h (fun xv s₁ h₁ => wpAny_mono h₁ (fun it s₂ h₂ => ?_) fun _ _ e => e) fun _ _ e => e)
  obtain ⟨I, fp, wr, n, P, St, news, J, rfl, W, hsz, hst, hfp, F, N, hL, hwr, off, hJ, turn, done⟩ := h₂
  refine cblock J W hsz hcell hkind hxs hst hfp F N hL hwr off hJ turn ?_
  intro D C h tk m' ys news' F' N' o1 hn hC₀ hD₀ hCL hDL hCD offC hJ'
  refine ⟨m', hn, fun h'' hs'' => done D h'' tk ys news' (F'.change hs'' hCL hC₀) (fun p hp => ?_) o1 hJ'⟩
  refine ⟨hs''.extBut _ _ ?_ (N' p hp).1, (N' p hp).2⟩
  rcases List.mem_cons.mp hp with rfl | hp
  · exact Ne.symm hCD
  · exact offC p hp

theorem csrc_name {I : Addr} {fp wr : List Addr} {n : Nat} {V : Nat → Value → Prop} {St : Nat → Heap → Prop} {x : Str} {px : Pos} (W : Walks prog w A I fp wr n V St) (hsub : ∀ b ∈ wr, b ∈ fp) :
    CSrc prog w A (.Name x px) [x] I fp wr n (fun i m => ∃ v, V i v ∧ m x = some v) St where
  sub := hsub
  frame := W.frame
  item := fun i s cenv m' Q E hi st hn hC hk hp hQ => by
    refine W.item i s _ _ hi st fun v h' tk hv hst' hk' => ?_
    show wpAny _ _ (letOwnedTupleGo (.Name x px) (.ref I) v) _ _ _
    refine wpAny_pure ?_
    have hn' : h'.Ns cenv.locals m' := hn.at' fun o e => hk' _ o (fun h => hC (hsub _ h)) e
    refine wpAny_assign_Name (wpAny_storeName_local (hk x (List.mem_singleton.mpr rfl)) hn' (fun h₂ hn₂ hs₂ => ?_) hp)
    exact hQ h₂ _ _ hn₂ ⟨v, hv, by simp⟩ (W.frame _ _ _ hst' fun b hb o e => hs₂.extBut b o (fun q => hC (q ▸ hb)) e) fun b o hb hbC e => hs₂.extBut b o hbC (hk' b o hb e)
  done := W.done
  self := W.self

/-- what a turn that makes nothing that is kept leaves -/
def TEnd (h₀ : Heap) (L : Addr) (m : Str → Option Value) (s₁ : Shared) (led : List (Addr × Obj)) (J : Prop) (s₂ : Shared) : Prop :=
  ∃ h' tk, s₂ = { s₁ with heap := h', toks := tk } ∧ Fr h₀ L h' m ∧ News h₀ L h' led ∧ J
theorem TEnd.intro {s₁ : Shared} {led led' : List (Addr × Obj)} {J : Prop} {h' : Heap} {tk : Nat} (F : Fr h₀ L h' m) (N : News h₀ L h' led') (hs : ∀ p ∈ led, p ∈ led') (j : J) : TEnd h₀ L m s₁ led J { s₁ with heap := h', toks := tk } := ⟨h', tk, rfl, F, fun p hp => N p (hs p hp), j⟩

theorem comp_str {elt : Expr} {c : Option Expr} {y : Str} {py : Pos} {scope : Scope} {cl : List (Str × Addr)} {Q : Value → Shared → Prop} {x : Str} {t : Tok} {news : List (Addr × Obj)} (J : Nat → List Value → Prop)
    (hh : A.handled = none) (F : Fr h₀ L s.heap m) (N : News h₀ L s.heap news) (hsz : x.length ≤ sizeLine) (hJ : J 0 [])
    (turn : ∀ i cc u ys own C oC D m₂ h tk (E' : Value → Shared → Prop), x.cps[i]? = some cc → J i ys → NsObj oC m₂ → m₂ y = some (.str ⟨#[cc]⟩ u) → Fr h₀ L h m →
      News h₀ L h ((C, oC) :: (D, lst ys) :: (news ++ own)) →
      CTest prog w A c (compEnvC scope cl C env) (fun s' => wpAny (model prog w) A (eval elt (compEnvC scope cl C env)) (fun v s₅ => TEnd h₀ L m { s with heap := h, toks := tk } ((C, oC) :: (D, lst ys) :: (news ++ own)) (J (i + 1) (ys ++ [v])) s₅) E' s')
        (TEnd h₀ L m { s with heap := h, toks := tk } ((C, oC) :: (D, lst ys) :: (news ++ own)) (J (i + 1) ys)) E' { s with heap := h, toks := tk })
    (done : ∀ D h tk ys, J x.length ys → Fr h₀ L h m → News h₀ L h ((D, lst ys) :: news) → (∀ p ∈ news, p.1 ≠ D) → Q (.ref D) { s with heap := h, toks := tk }) :
    wpAny (model prog w) A (pyIter (.str x t)) (fun it s₂ => CompAt prog w A h₀ L m env elt (.Name y py) c [y] scope cl Q it s₂) E s := by
  refine wpAny_pyIter_str fun o St hW hst => ?_
  have W := hW A hh
  have low : ∀ p ∈ news, p.1 < s.heap.objs.size := fun p hp => Heap.lt_size (N p hp).1
  refine ⟨_, _, _, _, _, _, news, (fun i ys nx => nx = news ∧ J i ys), rfl, csrc_name W (fun _ h => h), hsz, hst, ?_, F.push _, (fun p hp => ⟨Heap.get?_push_of_some _ (N p hp).1, (N p hp).2⟩), ?_, ?_, ?_, ⟨rfl, hJ⟩, ?_, ?_⟩
  · intro b hb
    rw [List.mem_singleton.mp hb]
    show _ < (s.heap.push _).objs.size
    rw [Heap.size_push]; exact Nat.lt_succ_self _
  · intro h
    exact absurd F.ns.lt ((List.mem_singleton.mp h) ▸ Nat.lt_irrefl _)
  · intro b hb
    rw [List.mem_singleton.mp hb]; exact next_is_new F
  · intro p hp hI
    exact absurd (low p hp) ((List.mem_singleton.mp hI) ▸ Nat.lt_irrefl _)
  · rintro i ys news₁ own C oC D m₂ h tk E' hi hyl ⟨v, ⟨cc, u, hc, rfl⟩, hm⟩ ⟨rfl, hJi⟩ hown off hC hD hCD hN F₁ N₁
    have N₂ : News h₀ L h ((C, oC) :: (D, lst ys) :: (news₁ ++ own)) := fun p hp => N₁ p (by
      simp only [List.mem_append, List.mem_cons, List.not_mem_nil, or_false] at hp ⊢
      rcases hp with h | h | h | h
      · exact .inl (.inr (.inl h))
      · exact .inl (.inr (.inr h))
      · exact .inr h
      · exact .inl (.inl h))
    have back : ∀ {K : Prop} {h' : Heap} {tk' : Nat}, TEnd h₀ L m { s with heap := h, toks := tk } ((C, oC) :: (D, lst ys) :: (news₁ ++ own)) K { s with heap := h', toks := tk' } → News h₀ L h' ((own ++ [(C, oC), (D, lst ys)]) ++ news₁) := by
      rintro K h' tk' ⟨h₂, tk₂, e, F₂, N', k⟩
      have : h' = h₂ := by injection e
      subst this
      exact fun p hp => N' p (by
        simp only [List.mem_append, List.mem_cons, List.not_mem_nil, or_false] at hp ⊢
        rcases hp with (h | h | h) | h
        · exact .inr (.inr (.inr h))
        · exact .inl h
        · exact .inr (.inl h)
        · exact .inr (.inr (.inl h)))
    refine CTest.mono (turn i cc u ys own C oC D m₂ h tk E' hc hJi hN hm F₁ N₂) (fun s' h' => wpAny_mono h' (fun v s₅ h₅ => ?_) fun _ _ e => e) (fun s' h₅ => ?_)
    · have b := h₅
      obtain ⟨h₂, tk₂, rfl, F₂, N', k⟩ := h₅
      exact ⟨h₂, tk₂, news₁, rfl, F₂, back b, off, rfl, k⟩
    · have b := h₅
      obtain ⟨h₂, tk₂, rfl, F₂, N', k⟩ := h₅
      exact ⟨h₂, tk₂, news₁, rfl, F₂, back b, off, rfl, k⟩
  · rintro D h tk ys news' F' N' o1 ⟨rfl, hJn⟩
    exact done D h tk ys hJn F' N' o1

theorem comp_evalN1 {elt iter ct : Expr} {y : Str} {py : Pos} {scope : Scope} {cl : List (Str × Addr)} {pos : Pos} {Q : Value → Shared → Prop} (F₀ : Fr h₀ L s.heap m)
    (hclos : closureFor scope env = pure cl) (hcell : ∀ y ∈ scope.names, y.2 ≠ .cell) (hkind : scope.kind = .function)
    (hnames : ∀ y ∈ scope.names, y.2 = .local → scope.names.lookup y.1 = some .local) (hx : scope.names.lookup y = some .local)
    (h : wpAny (model prog w) A (eval iter env) (fun xv s₁ => wpAny (model prog w) A (pyIter xv) (fun it s₂ => CompAt prog w A h₀ L m env elt (.Name y py) (some ct) [y] scope cl Q it s₂) E s₁) E s)
    (hs : ∀ x, foldedSetIterable iter env x = pure x := by intro _; rfl) :
    wpAny (model prog w) A (eval (.ListComp elt [⟨.Name y py, iter, [ct], 0⟩] scope pos) env) Q E s :=
  comp_eval (c := some ct) (xs := [y]) F₀ hclos hcell hkind hnames (by simpa using hx) h hs
theorem comp_evalN0 {elt iter : Expr} {y : Str} {py : Pos} {scope : Scope} {cl : List (Str × Addr)} {pos : Pos} {Q : Value → Shared → Prop} (F₀ : Fr h₀ L s.heap m)
    (hclos : closureFor scope env = pure cl) (hcell : ∀ y ∈ scope.names, y.2 ≠ .cell) (hkind : scope.kind = .function)
    (hnames : ∀ y ∈ scope.names, y.2 = .local → scope.names.lookup y.1 = some .local) (hx : scope.names.lookup y = some .local)
    (h : wpAny (model prog w) A (eval iter env) (fun xv s₁ => wpAny (model prog w) A (pyIter xv) (fun it s₂ => CompAt prog w A h₀ L m env elt (.Name y py) none [y] scope cl Q it s₂) E s₁) E s)
    (hs : ∀ x, foldedSetIterable iter env x = pure x := by intro _; rfl) :
    wpAny (model prog w) A (eval (.ListComp elt [⟨.Name y py, iter, [], 0⟩] scope pos) env) Q E s :=
  comp_eval (c := none) (xs := [y]) F₀ hclos hcell hkind hnames (by simpa using hx) h hs
theorem comp_evalP1 {elt iter ct : Expr} {a b : Str} {pa pb tp : Pos} {tk} {scope : Scope} {cl : List (Str × Addr)} {pos : Pos} {Q : Value → Shared → Prop} (F₀ : Fr h₀ L s.heap m)
    (hclos : closureFor scope env = pure cl) (hcell : ∀ y ∈ scope.names, y.2 ≠ .cell) (hkind : scope.kind = .function)
    (hnames : ∀ y ∈ scope.names, y.2 = .local → scope.names.lookup y.1 = some .local) (hx : scope.names.lookup a = some .local) (hy : scope.names.lookup b = some .local)
    (h : wpAny (model prog w) A (eval iter env) (fun xv s₁ => wpAny (model prog w) A (pyIter xv) (fun it s₂ => CompAt prog w A h₀ L m env elt (.Tuple [.Name a pa, .Name b pb] tk tp) (some ct) [a, b] scope cl Q it s₂) E s₁) E s)
    (hs : ∀ x, foldedSetIterable iter env x = pure x := by intro _; rfl) :
    wpAny (model prog w) A (eval (.ListComp elt [⟨.Tuple [.Name a pa, .Name b pb] tk tp, iter, [ct], 0⟩] scope pos) env) Q E s :=
  comp_eval (c := some ct) (xs := [a, b]) F₀ hclos hcell hkind hnames (by
    intro x hx'
    rcases List.mem_cons.mp hx' with rfl | h'
    · exact hx
    · rw [List.mem_singleton.mp h']; exact hy) h hs
end
end
-- KbHead
section
set_option maxRecDepth 1000000
set_option maxHeartbeats 8000000
/-- what a def of the program bears: its parameters, its body, its scope -/
noncomputable def zDef : Stmt → Option (Arguments × List Stmt × Scope)
  | .FunctionDef _ a b _ _ _ c _ _ _ => some (a, b, c)
  | .ClassDef _ _ _ (.FunctionDef _ a b _ _ _ c _ _ _ :: _) _ _ _ _ _ _ _ => some (a, b, c)
  | _ => none
noncomputable def zGet : List Stmt → Nat → Option Stmt
  | [], _ => none
  | s :: _, 0 => some s
  | _ :: r, n + 1 => zGet r n
noncomputable def zAt (i : Nat) : Option (Arguments × List Stmt × Scope) := (zGet PySem.Challenge.pw_np0049_01.main.body i).bind zDef
noncomputable def zKeep : List Nat → List Stmt
  | [] => []
  | i :: r => match zGet PySem.Challenge.pw_np0049_01.main.body i with
    | some s => s :: zKeep r
    | none => zKeep r
/-- the part of the heap that stands at the law -/
noncomputable def hd.heap_39 : Params → Frag := by
  refine' (_ : ∀ (a1 : Arguments) (b1 : List Stmt) (c1 : Scope), zAt 1 = some (a1, b1, c1) → ∀ (a13 : Arguments) (b13 : List Stmt) (c13 : Scope), zAt 13 = some (a13, b13, c13) → ∀ (a14 : Arguments) (b14 : List Stmt) (c14 : Scope), zAt 14 = some (a14, b14, c14) → ∀ (a15 : Arguments) (b15 : List Stmt) (c15 : Scope), zAt 15 = some (a15, b15, c15) → ∀ (a16 : Arguments) (b16 : List Stmt) (c16 : Scope), zAt 16 = some (a16, b16, c16) → ∀ (a17 : Arguments) (b17 : List Stmt) (c17 : Scope), zAt 17 = some (a17, b17, c17) → ∀ (a18 : Arguments) (b18 : List Stmt) (c18 : Scope), zAt 18 = some (a18, b18, c18) → ∀ (a19 : Arguments) (b19 : List Stmt) (c19 : Scope), zAt 19 = some (a19, b19, c19) → ∀ (a20 : Arguments) (b20 : List Stmt) (c20 : Scope), zAt 20 = some (a20, b20, c20) → ∀ (a21 : Arguments) (b21 : List Stmt) (c21 : Scope), zAt 21 = some (a21, b21, c21) → ∀ (a22 : Arguments) (b22 : List Stmt) (c22 : Scope), zAt 22 = some (a22, b22, c22) → ∀ (a23 : Arguments) (b23 : List Stmt) (c23 : Scope), zAt 23 = some (a23, b23, c23) → ∀ (a24 : Arguments) (b24 : List Stmt) (c24 : Scope), zAt 24 = some (a24, b24, c24) → ∀ (a25 : Arguments) (b25 : List Stmt) (c25 : Scope), zAt 25 = some (a25, b25, c25) → ∀ (a26 : Arguments) (b26 : List Stmt) (c26 : Scope), zAt 26 = some (a26, b26, c26) → ∀ (a27 : Arguments) (b27 : List Stmt) (c27 : Scope), zAt 27 = some (a27, b27, c27) → ∀ (a32 : Arguments) (b32 : List Stmt) (c32 : Scope), zAt 32 = some (a32, b32, c32) → ∀ (a33 : Arguments) (b33 : List Stmt) (c33 : Scope), zAt 33 = some (a33, b33, c33) → ∀ (a34 : Arguments) (b34 : List Stmt) (c34 : Scope), zAt 34 = some (a34, b34, c34) → ∀ (a35 : Arguments) (b35 : List Stmt) (c35 : Scope), zAt 35 = some (a35, b35, c35) → ∀ (a36 : Arguments) (b36 : List Stmt) (c36 : Scope), zAt 36 = some (a36, b36, c36) → ∀ (a37 : Arguments) (b37 : List Stmt) (c37 : Scope), zAt 37 = some (a37, b37, c37) → ∀ (a38 : Arguments) (b38 : List Stmt) (c38 : Scope), zAt 38 = some (a38, b38, c38) → ∀ (a39 : Arguments) (b39 : List Stmt) (c39 : Scope), zAt 39 = some (a39, b39, c39) → ∀ (a40 : Arguments) (b40 : List Stmt) (c40 : Scope), zAt 40 = some (a40, b40, c40) → ∀ (a46 : Arguments) (b46 : List Stmt) (c46 : Scope), zAt 46 = some (a46, b46, c46) → ∀ (a47 : Arguments) (b47 : List Stmt) (c47 : Scope), zAt 47 = some (a47, b47, c47) → ∀ (a48 : Arguments) (b48 : List Stmt) (c48 : Scope), zAt 48 = some (a48, b48, c48) → ∀ (a49 : Arguments) (b49 : List Stmt) (c49 : Scope), zAt 49 = some (a49, b49, c49) → ∀ (a50 : Arguments) (b50 : List Stmt) (c50 : Scope), zAt 50 = some (a50, b50, c50) → ∀ (a51 : Arguments) (b51 : List Stmt) (c51 : Scope), zAt 51 = some (a51, b51, c51) → ∀ (a52 : Arguments) (b52 : List Stmt) (c52 : Scope), zAt 52 = some (a52, b52, c52) → ∀ (a53 : Arguments) (b53 : List Stmt) (c53 : Scope), zAt 53 = some (a53, b53, c53) → ∀ (a54 : Arguments) (b54 : List Stmt) (c54 : Scope), zAt 54 = some (a54, b54, c54) → ∀ (a55 : Arguments) (b55 : List Stmt) (c55 : Scope), zAt 55 = some (a55, b55, c55) → ∀ (a56 : Arguments) (b56 : List Stmt) (c56 : Scope), zAt 56 = some (a56, b56, c56) → ∀ (a57 : Arguments) (b57 : List Stmt) (c57 : Scope), zAt 57 = some (a57, b57, c57) → ∀ (a58 : Arguments) (b58 : List Stmt) (c58 : Scope), zAt 58 = some (a58, b58, c58) → ∀ (a59 : Arguments) (b59 : List Stmt) (c59 : Scope), zAt 59 = some (a59, b59, c59) → ∀ (a61 : Arguments) (b61 : List Stmt) (c61 : Scope), zAt 61 = some (a61, b61, c61) → ∀ (a62 : Arguments) (b62 : List Stmt) (c62 : Scope), zAt 62 = some (a62, b62, c62) → ∀ (a64 : Arguments) (b64 : List Stmt) (c64 : Scope), zAt 64 = some (a64, b64, c64) → ∀ (a65 : Arguments) (b65 : List Stmt) (c65 : Scope), zAt 65 = some (a65, b65, c65) → ∀ (a66 : Arguments) (b66 : List Stmt) (c66 : Scope), zAt 66 = some (a66, b66, c66) → ∀ (a67 : Arguments) (b67 : List Stmt) (c67 : Scope), zAt 67 = some (a67, b67, c67) → ∀ (a68 : Arguments) (b68 : List Stmt) (c68 : Scope), zAt 68 = some (a68, b68, c68) → ∀ (a69 : Arguments) (b69 : List Stmt) (c69 : Scope), zAt 69 = some (a69, b69, c69) → ∀ (a70 : Arguments) (b70 : List Stmt) (c70 : Scope), zAt 70 = some (a70, b70, c70) → ∀ (a71 : Arguments) (b71 : List Stmt) (c71 : Scope), zAt 71 = some (a71, b71, c71) → Params → Frag) _ _ _ rfl _ _ _ rfl _ _ _ rfl _ _ _ rfl _ _ _ rfl _ _ _ rfl _ _ _ rfl _ _ _ rfl _ _ _ rfl _ _ _ rfl _ _ _ rfl _ _ _ rfl _ _ _ rfl _ _ _ rfl _ _ _ rfl _ _ _ rfl _ _ _ rfl _ _ _ rfl _ _ _ rfl _ _ _ rfl _ _ _ rfl _ _ _ rfl _ _ _ rfl _ _ _ rfl _ _ _ rfl _ _ _ rfl _ _ _ rfl _ _ _ rfl _ _ _ rfl _ _ _ rfl _ _ _ rfl _ _ _ rfl _ _ _ rfl _ _ _ rfl _ _ _ rfl _ _ _ rfl _ _ _ rfl _ _ _ rfl _ _ _ rfl _ _ _ rfl _ _ _ rfl _ _ _ rfl _ _ _ rfl _ _ _ rfl _ _ _ rfl _ _ _ rfl _ _ _ rfl _ _ _ rfl _ _ _ rfl
  exact fun a1 b1 c1 _ a13 b13 c13 _ a14 b14 c14 _ a15 b15 c15 _ a16 b16 c16 _ a17 b17 c17 _ a18 b18 c18 _ a19 b19 c19 _ a20 b20 c20 _ a21 b21 c21 _ a22 b22 c22 _ a23 b23 c23 _ a24 b24 c24 _ a25 b25 c25 _ a26 b26 c26 _ a27 b27 c27 _ a32 b32 c32 _ a33 b33 c33 _ a34 b34 c34 _ a35 b35 c35 _ a36 b36 c36 _ a37 b37 c37 _ a38 b38 c38 _ a39 b39 c39 _ a40 b40 c40 _ a46 b46 c46 _ a47 b47 c47 _ a48 b48 c48 _ a49 b49 c49 _ a50 b50 c50 _ a51 b51 c51 _ a52 b52 c52 _ a53 b53 c53 _ a54 b54 c54 _ a55 b55 c55 _ a56 b56 c56 _ a57 b57 c57 _ a58 b58 c58 _ a59 b59 c59 _ a61 b61 c61 _ a62 b62 c62 _ a64 b64 c64 _ a65 b65 c65 _ a66 b66 c66 _ a67 b67 c67 _ a68 b68 c68 _ a69 b69 c69 _ a70 b70 c70 _ a71 b71 c71 _ P => (nat_lit 2, { cls := Value.none, data := Data.dict #[{ hash := PyData.keyHash P (Str.ofString "type.__subclasses__.Exception.0"), key := Value.str (Str.ofString "type.__subclasses__.Exception.0") 216, val := Value.int 31 0 }, { hash := PyData.keyHash P (Str.ofString "type.__subclasses__.Exception.n"), key := Value.str (Str.ofString "type.__subclasses__.Exception.n") 217, val := Value.int 1 0 }] 2 }) ::
    (nat_lit 3, { cls := Value.type "dict", data := Data.dict (List.toArray ({ hash := PyData.keyHash P (Str.ofString "__name__"), key := Value.str (Str.ofString "__name__") 165, val := Value.str (Str.ofString "law_np0049_01") 607 } :: { hash := PyData.keyHash P (Str.ofString "__doc__"), key := Value.str (Str.ofString "__doc__") 166, val := Value.none } :: { hash := PyData.keyHash P (Str.ofString "__package__"), key := Value.str (Str.ofString "__package__") 167, val := Value.none } :: { hash := PyData.keyHash P (Str.ofString "__loader__"), key := Value.str (Str.ofString "__loader__") 168, val := Value.builtin "__main__.__loader__#opaque" } :: { hash := PyData.keyHash P (Str.ofString "__spec__"), key := Value.str (Str.ofString "__spec__") 169, val := Value.none } :: { hash := PyData.keyHash P (Str.ofString "__annotations__"), key := Value.str (Str.ofString "__annotations__") 170, val := Value.ref 6 } :: { hash := PyData.keyHash P (Str.ofString "__builtins__"), key := Value.str (Str.ofString "__builtins__") 171, val := Value.ref 4 } :: { hash := PyData.keyHash P (Str.ofString "__file__"), key := Value.str (Str.ofString "__file__") 173, val := Value.str (Str.ofString "/claim/cut.py") 172 } :: { hash := PyData.keyHash P (Str.ofString "__cached__"), key := Value.str (Str.ofString "__cached__") 174, val := Value.none } :: { hash := PyData.keyHash P (Str.ofString "LispSignal"), key := Value.str (Str.ofString "LispSignal") 219, val := Value.ref 31 } :: { hash := PyData.keyHash P (Str.ofString "ALT"), key := Value.str (Str.ofString "ALT") 225, val := Value.int 4194304 224 } :: { hash := PyData.keyHash P (Str.ofString "SUPER"), key := Value.str (Str.ofString "SUPER") 229, val := Value.int 8388608 228 } :: { hash := PyData.keyHash P (Str.ofString "HYPER"), key := Value.str (Str.ofString "HYPER") 233, val := Value.int 16777216 232 } :: { hash := PyData.keyHash P (Str.ofString "SHIFT"), key := Value.str (Str.ofString "SHIFT") 237, val := Value.int 33554432 236 } :: { hash := PyData.keyHash P (Str.ofString "CONTROL"), key := Value.str (Str.ofString "CONTROL") 241, val := Value.int 67108864 240 } :: { hash := PyData.keyHash P (Str.ofString "META"), key := Value.str (Str.ofString "META") 245, val := Value.int 134217728 244 } :: { hash := PyData.keyHash P (Str.ofString "CODES"), key := Value.str (Str.ofString "CODES") 249, val := Value.int 4194304 248 } :: { hash := PyData.keyHash P (Str.ofString "LETTERS"), key := Value.str (Str.ofString "LETTERS") 251, val := Value.str (Str.ofString "ACHMSs") 250 } :: { hash := PyData.keyHash P (Str.ofString "BITS"), key := Value.str (Str.ofString "BITS") 252, val := Value.ref 35 } :: { hash := PyData.keyHash P (Str.ofString "ESCAPE"), key := Value.str (Str.ofString "ESCAPE") 254, val := Value.int 27 253 } :: { hash := PyData.keyHash P (Str.ofString "is_sign"), key := Value.str (Str.ofString "is_sign") 261, val := Value.ref 42 } :: { hash := PyData.keyHash P (Str.ofString "bit_of"), key := Value.str (Str.ofString "bit_of") 268, val := Value.ref 49 } :: { hash := PyData.keyHash P (Str.ofString "ordered"), key := Value.str (Str.ofString "ordered") 274, val := Value.ref 54 } :: { hash := PyData.keyHash P (Str.ofString "code_of"), key := Value.str (Str.ofString "code_of") 281, val := Value.ref 61 } :: { hash := PyData.keyHash P (Str.ofString "bits_of"), key := Value.str (Str.ofString "bits_of") 288, val := Value.ref 68 } :: { hash := PyData.keyHash P (Str.ofString "bit_letters"), key := Value.str (Str.ofString "bit_letters") 294, val := Value.ref 73 } :: { hash := PyData.keyHash P (Str.ofString "split_name"), key := Value.str (Str.ofString "split_name") 302, val := Value.ref 80 } :: { hash := PyData.keyHash P (Str.ofString "join_name"), key := Value.str (Str.ofString "join_name") 308, val := Value.ref 85 } :: { hash := PyData.keyHash P (Str.ofString "has_control_code"), key := Value.str (Str.ofString "has_control_code") 315, val := Value.ref 92 } :: { hash := PyData.keyHash P (Str.ofString "is_great"), key := Value.str (Str.ofString "is_great") 322, val := Value.ref 99 } :: { hash := PyData.keyHash P (Str.ofString "with_control"), key := Value.str (Str.ofString "with_control") 331, val := Value.ref 106 } :: { hash := PyData.keyHash P (Str.ofString "with_letter"), key := Value.str (Str.ofString "with_letter") 339, val := Value.ref 113 } :: { hash := PyData.keyHash P (Str.ofString "make_event"), key := Value.str (Str.ofString "make_event") 350, val := Value.ref 120 } :: { hash := PyData.keyHash P (Str.ofString "is_control_code"), key := Value.str (Str.ofString "is_control_code") 357, val := Value.ref 127 } :: { hash := PyData.keyHash P (Str.ofString "has_meta"), key := Value.str (Str.ofString "has_meta") 364, val := Value.ref 134 } :: { hash := PyData.keyHash P (Str.ofString "NAMED_CODES"), key := Value.str (Str.ofString "NAMED_CODES") 381, val := Value.ref 142 } :: { hash := PyData.keyHash P (Str.ofString "TAB"), key := Value.str (Str.ofString "TAB") 383, val := Value.int 9 382 } :: { hash := PyData.keyHash P (Str.ofString "PLAIN_CONTROLS"), key := Value.str (Str.ofString "PLAIN_CONTROLS") 387, val := Value.ref 143 } :: { hash := PyData.keyHash P (Str.ofString "code_named"), key := Value.str (Str.ofString "code_named") 396, val := Value.ref 150 } :: { hash := PyData.keyHash P (Str.ofString "letters_text"), key := Value.str (Str.ofString "letters_text") 402, val := Value.ref 155 } :: { hash := PyData.keyHash P (Str.ofString "control_letter"), key := Value.str (Str.ofString "control_letter") 409, val := Value.ref 162 } :: { hash := PyData.keyHash P (Str.ofString "code_text"), key := Value.str (Str.ofString "code_text") 416, val := Value.ref 169 } :: { hash := PyData.keyHash P (Str.ofString "control_text"), key := Value.str (Str.ofString "control_text") 424, val := Value.ref 176 } :: { hash := PyData.keyHash P (Str.ofString "sign_text"), key := Value.str (Str.ofString "sign_text") 435, val := Value.ref 183 } :: { hash := PyData.keyHash P (Str.ofString "name_text"), key := Value.str (Str.ofString "name_text") 445, val := Value.ref 190 } :: { hash := PyData.keyHash P (Str.ofString "single_key_description"), key := Value.str (Str.ofString "single_key_description") 453, val := Value.ref 198 } :: { hash := PyData.keyHash P (Str.ofString "is_modifier_letter"), key := Value.str (Str.ofString "is_modifier_letter") 460, val := Value.ref 205 } :: { hash := PyData.keyHash P (Str.ofString "DIGITS"), key := Value.str (Str.ofString "DIGITS") 464, val := Value.str (Str.ofString "0123456789") 463 } :: { hash := PyData.keyHash P (Str.ofString "BLANKS"), key := Value.str (Str.ofString "BLANKS") 466, val := Value.str (Str.ofString " \t\n\x0c\x0d") 465 } :: { hash := PyData.keyHash P (Str.ofString "MOST_TIMES"), key := Value.str (Str.ofString "MOST_TIMES") 468, val := Value.int 10000 467 } :: { hash := PyData.keyHash P (Str.ofString "MOST_FIGURES"), key := Value.str (Str.ofString "MOST_FIGURES") 470, val := Value.int 9 469 } :: { hash := PyData.keyHash P (Str.ofString "bad_word"), key := Value.str (Str.ofString "bad_word") 477, val := Value.ref 212 } :: { hash := PyData.keyHash P (Str.ofString "words_of"), key := Value.str (Str.ofString "words_of") 487, val := Value.ref 219 } :: { hash := PyData.keyHash P (Str.ofString "blank_words"), key := Value.str (Str.ofString "blank_words") 497, val := Value.ref 226 } :: { hash := PyData.keyHash P (Str.ofString "times_of"), key := Value.str (Str.ofString "times_of") 505, val := Value.ref 233 } :: { hash := PyData.keyHash P (Str.ofString "letters_ahead"), key := Value.str (Str.ofString "letters_ahead") 513, val := Value.ref 240 } :: { hash := PyData.keyHash P (Str.ofString "is_command_word"), key := Value.str (Str.ofString "is_command_word") 520, val := Value.ref 247 } :: { hash := PyData.keyHash P (Str.ofString "is_angled"), key := Value.str (Str.ofString "is_angled") 527, val := Value.ref 254 } :: { hash := PyData.keyHash P (Str.ofString "plain_signs"), key := Value.str (Str.ofString "plain_signs") 533, val := Value.ref 259 } :: { hash := PyData.keyHash P (Str.ofString "command_keys"), key := Value.str (Str.ofString "command_keys") 540, val := Value.ref 266 } :: { hash := PyData.keyHash P (Str.ofString "caret_code"), key := Value.str (Str.ofString "caret_code") 547, val := Value.ref 273 } :: { hash := PyData.keyHash P (Str.ofString "named_key"), key := Value.str (Str.ofString "named_key") 556, val := Value.ref 280 } :: { hash := PyData.keyHash P (Str.ofString "modified_key"), key := Value.str (Str.ofString "modified_key") 566, val := Value.ref 287 } :: { hash := PyData.keyHash P (Str.ofString "word_keys"), key := Value.str (Str.ofString "word_keys") 575, val := Value.ref 294 } :: { hash := PyData.keyHash P (Str.ofString "kbd"), key := Value.str (Str.ofString "kbd") 586, val := Value.ref 301 } :: { hash := PyData.keyHash P (Str.ofString "described"), key := Value.str (Str.ofString "described") 598, val := Value.ref 308 } :: { hash := PyData.keyHash P (Str.ofString "key_description"), key := Value.str (Str.ofString "key_description") 606, val := Value.ref 317 } :: { hash := PyData.keyHash P (Str.ofString "_law_draw"), key := Value.str (Str.ofString "_law_draw") 616, val := Value.ref 324 } :: { hash := PyData.keyHash P (Str.ofString "_law_pick"), key := Value.str (Str.ofString "_law_pick") 624, val := Value.ref 331 } :: { hash := PyData.keyHash P (Str.ofString "_law_bits"), key := Value.str (Str.ofString "_law_bits") 630, val := Value.ref 338 } :: { hash := PyData.keyHash P (Str.ofString "_law_key"), key := Value.str (Str.ofString "_law_key") 636, val := Value.ref 343 } :: { hash := PyData.keyHash P (Str.ofString "_law_joined"), key := Value.str (Str.ofString "_law_joined") 647, val := Value.ref 350 } :: { hash := PyData.keyHash P (Str.ofString "_law_spread"), key := Value.str (Str.ofString "_law_spread") 657, val := Value.ref 357 } :: { hash := PyData.keyHash P (Str.ofString "_law_refused"), key := Value.str (Str.ofString "_law_refused") 665, val := Value.ref 364 } :: { hash := PyData.keyHash P (Str.ofString "law"), key := Value.str (Str.ofString "law") 671, val := Value.ref 369 } :: [])) 75 }) ::
    (nat_lit 15, { cls := Value.type "tuple", data := Data.seq #[Value.type "Exception"] }) ::
    (nat_lit 22, { cls := Value.type "tuple", data := Data.seq #[] }) ::
    (nat_lit 24, { cls := Value.type "tuple", data := Data.seq #[Value.str (Str.ofString "self") 204, Value.str (Str.ofString "symbol") 205, Value.str (Str.ofString "data") 206] }) ::
    (nat_lit 25, { cls := Value.type "tuple", data := Data.seq #[] }) ::
    (nat_lit 27, { cls := Value.type "code", data := Data.fields #[Value.str (Str.ofString "__init__") 201, Value.str (Str.ofString "LispSignal.__init__") 202, Value.str (Str.ofString "/claim/cut.py") 203, Value.int 4 0, Value.int 3 0, Value.int 0 0, Value.int 0 0, Value.int 3 0, Value.ref 22, Value.bool true, Value.int 181 0, Value.ref 23, Value.none, Value.ref 24, Value.ref 25, Value.ref 26, Value.int 207 0, Value.int 4 0, Value.str (Str.ofString "/claim/cut.py") 208] }) ::
    (nat_lit 28, { cls := Value.type "function", data := Data.func { name := Str.ofString "__init__", qualname := Str.ofString "LispSignal.__init__", params := a1, body := FuncBody.stmts b1, scope := c1, globals := 3, closure := [], defaults := Value.none, kwdefaults := Value.none, pyModule := Value.str (Str.ofString "emacs.errors") 187, code := Value.ref 27 } }) ::
    (nat_lit 29, { cls := Value.type "tuple", data := Data.seq #[Value.str (Str.ofString "data") 210, Value.str (Str.ofString "symbol") 211] }) ::
    (nat_lit 30, { cls := Value.type "dict", data := Data.dict #[{ hash := PyData.keyHash P (Str.ofString "__module__"), key := Value.str (Str.ofString "__module__") 196, val := Value.str (Str.ofString "emacs.errors") 187 }, { hash := PyData.keyHash P (Str.ofString "__firstlineno__"), key := Value.str (Str.ofString "__firstlineno__") 200, val := Value.int 2 199 }, { hash := PyData.keyHash P (Str.ofString "__init__"), key := Value.str (Str.ofString "__init__") 209, val := Value.ref 28 }, { hash := PyData.keyHash P (Str.ofString "__static_attributes__"), key := Value.str (Str.ofString "__static_attributes__") 212, val := Value.ref 29 }, { hash := PyData.keyHash P (Str.ofString "__weakref__"), key := Value.str (Str.ofString "__weakref__") 214, val := Value.ref 32 }, { hash := PyData.keyHash P (Str.ofString "__doc__"), key := Value.str (Str.ofString "__doc__") 215, val := Value.none }] 3 }) ::
    (nat_lit 31, { cls := Value.type "type", data := Data.cls { name := Str.ofString "LispSignal", bases := [Value.type "Exception"], mro := [Value.ref 31, Value.type "Exception", Value.type "BaseException", Value.type "object"], ns := 30, qualname := Str.ofString "LispSignal" }, slots := #[some (Value.ref 15), none, some (Value.str (Str.ofString "LispSignal") 189), some (Value.str (Str.ofString "LispSignal") 197), some (Value.builtin "Exception.__new__"), some (Value.bool true)] }) ::
    (nat_lit 32, { cls := Value.type "getset_descriptor", data := Data.fields #[Value.str (Str.ofString "__weakref__") 213, Value.ref 31, Value.builtin "ExceptionGroup.__weakref__", Value.none] }) ::
    (nat_lit 35, { cls := Value.type "tuple", data := Data.seq #[Value.int 4194304 224, Value.int 67108864 240, Value.int 16777216 232, Value.int 134217728 244, Value.int 33554432 236, Value.int 8388608 228] }) ::
    (nat_lit 36, { cls := Value.type "tuple", data := Data.seq #[] }) ::
    (nat_lit 38, { cls := Value.type "tuple", data := Data.seq #[Value.str (Str.ofString "event") 258] }) ::
    (nat_lit 39, { cls := Value.type "tuple", data := Data.seq #[] }) ::
    (nat_lit 41, { cls := Value.type "code", data := Data.fields #[Value.str (Str.ofString "is_sign") 255, Value.str (Str.ofString "is_sign") 256, Value.str (Str.ofString "/claim/cut.py") 257, Value.int 18 0, Value.int 1 0, Value.int 0 0, Value.int 0 0, Value.int 3 0, Value.ref 36, Value.bool true, Value.int 181 0, Value.ref 37, Value.none, Value.ref 38, Value.ref 39, Value.ref 40, Value.int 259 0, Value.int 18 0, Value.str (Str.ofString "/claim/cut.py") 260] }) ::
    (nat_lit 42, { cls := Value.type "function", data := Data.func { name := Str.ofString "is_sign", qualname := Str.ofString "is_sign", params := a13, body := FuncBody.stmts b13, scope := c13, globals := 3, closure := [], defaults := Value.none, kwdefaults := Value.none, pyModule := Value.str (Str.ofString "emacs.events") 220, code := Value.ref 41 } }) ::
    (nat_lit 43, { cls := Value.type "tuple", data := Data.seq #[] }) ::
    (nat_lit 45, { cls := Value.type "tuple", data := Data.seq #[Value.str (Str.ofString "letter") 265] }) ::
    (nat_lit 46, { cls := Value.type "tuple", data := Data.seq #[] }) ::
    (nat_lit 48, { cls := Value.type "code", data := Data.fields #[Value.str (Str.ofString "bit_of") 262, Value.str (Str.ofString "bit_of") 263, Value.str (Str.ofString "/claim/cut.py") 264, Value.int 20 0, Value.int 1 0, Value.int 0 0, Value.int 0 0, Value.int 3 0, Value.ref 43, Value.bool true, Value.int 181 0, Value.ref 44, Value.none, Value.ref 45, Value.ref 46, Value.ref 47, Value.int 266 0, Value.int 20 0, Value.str (Str.ofString "/claim/cut.py") 267] }) ::
    (nat_lit 49, { cls := Value.type "function", data := Data.func { name := Str.ofString "bit_of", qualname := Str.ofString "bit_of", params := a14, body := FuncBody.stmts b14, scope := c14, globals := 3, closure := [], defaults := Value.none, kwdefaults := Value.none, pyModule := Value.str (Str.ofString "emacs.events") 220, code := Value.ref 48 } }) ::
    (nat_lit 50, { cls := Value.type "tuple", data := Data.seq #[] }) ::
    (nat_lit 53, { cls := Value.type "code", data := Data.fields #[Value.str (Str.ofString "ordered") 269, Value.str (Str.ofString "ordered") 270, Value.str (Str.ofString "/claim/cut.py") 271, Value.int 22 0, Value.int 1 0, Value.int 0 0, Value.int 0 0, Value.int 3 0, Value.ref 50, Value.bool true, Value.int 181 0, Value.ref 51, Value.none, Value.none, Value.none, Value.ref 52, Value.int 272 0, Value.int 22 0, Value.str (Str.ofString "/claim/cut.py") 273] }) ::
    (nat_lit 54, { cls := Value.type "function", data := Data.func { name := Str.ofString "ordered", qualname := Str.ofString "ordered", params := a15, body := FuncBody.stmts b15, scope := c15, globals := 3, closure := [], defaults := Value.none, kwdefaults := Value.none, pyModule := Value.str (Str.ofString "emacs.events") 220, code := Value.ref 53 } }) ::
    (nat_lit 55, { cls := Value.type "tuple", data := Data.seq #[] }) ::
    (nat_lit 57, { cls := Value.type "tuple", data := Data.seq #[Value.str (Str.ofString "event") 278] }) ::
    (nat_lit 58, { cls := Value.type "tuple", data := Data.seq #[] }) ::
    (nat_lit 60, { cls := Value.type "code", data := Data.fields #[Value.str (Str.ofString "code_of") 275, Value.str (Str.ofString "code_of") 276, Value.str (Str.ofString "/claim/cut.py") 277, Value.int 24 0, Value.int 1 0, Value.int 0 0, Value.int 0 0, Value.int 3 0, Value.ref 55, Value.bool true, Value.int 181 0, Value.ref 56, Value.none, Value.ref 57, Value.ref 58, Value.ref 59, Value.int 279 0, Value.int 24 0, Value.str (Str.ofString "/claim/cut.py") 280] }) ::
    (nat_lit 61, { cls := Value.type "function", data := Data.func { name := Str.ofString "code_of", qualname := Str.ofString "code_of", params := a16, body := FuncBody.stmts b16, scope := c16, globals := 3, closure := [], defaults := Value.none, kwdefaults := Value.none, pyModule := Value.str (Str.ofString "emacs.events") 220, code := Value.ref 60 } }) ::
    (nat_lit 62, { cls := Value.type "tuple", data := Data.seq #[] }) ::
    (nat_lit 64, { cls := Value.type "tuple", data := Data.seq #[Value.str (Str.ofString "event") 285] }) ::
    (nat_lit 65, { cls := Value.type "tuple", data := Data.seq #[] }) ::
    (nat_lit 67, { cls := Value.type "code", data := Data.fields #[Value.str (Str.ofString "bits_of") 282, Value.str (Str.ofString "bits_of") 283, Value.str (Str.ofString "/claim/cut.py") 284, Value.int 26 0, Value.int 1 0, Value.int 0 0, Value.int 0 0, Value.int 3 0, Value.ref 62, Value.bool true, Value.int 181 0, Value.ref 63, Value.none, Value.ref 64, Value.ref 65, Value.ref 66, Value.int 286 0, Value.int 26 0, Value.str (Str.ofString "/claim/cut.py") 287] }) ::
    (nat_lit 68, { cls := Value.type "function", data := Data.func { name := Str.ofString "bits_of", qualname := Str.ofString "bits_of", params := a17, body := FuncBody.stmts b17, scope := c16, globals := 3, closure := [], defaults := Value.none, kwdefaults := Value.none, pyModule := Value.str (Str.ofString "emacs.events") 220, code := Value.ref 67 } }) ::
    (nat_lit 69, { cls := Value.type "tuple", data := Data.seq #[] }) ::
    (nat_lit 72, { cls := Value.type "code", data := Data.fields #[Value.str (Str.ofString "bit_letters") 289, Value.str (Str.ofString "bit_letters") 290, Value.str (Str.ofString "/claim/cut.py") 291, Value.int 28 0, Value.int 1 0, Value.int 0 0, Value.int 0 0, Value.int 3 0, Value.ref 69, Value.bool true, Value.int 181 0, Value.ref 70, Value.none, Value.none, Value.none, Value.ref 71, Value.int 292 0, Value.int 28 0, Value.str (Str.ofString "/claim/cut.py") 293] }) ::
    (nat_lit 73, { cls := Value.type "function", data := Data.func { name := Str.ofString "bit_letters", qualname := Str.ofString "bit_letters", params := a18, body := FuncBody.stmts b18, scope := c18, globals := 3, closure := [], defaults := Value.none, kwdefaults := Value.none, pyModule := Value.str (Str.ofString "emacs.events") 220, code := Value.ref 72 } }) ::
    (nat_lit 74, { cls := Value.type "tuple", data := Data.seq #[] }) ::
    (nat_lit 76, { cls := Value.type "tuple", data := Data.seq #[Value.str (Str.ofString "name") 298, Value.str (Str.ofString "letters") 299] }) ::
    (nat_lit 77, { cls := Value.type "tuple", data := Data.seq #[] }) ::
    (nat_lit 79, { cls := Value.type "code", data := Data.fields #[Value.str (Str.ofString "split_name") 295, Value.str (Str.ofString "split_name") 296, Value.str (Str.ofString "/claim/cut.py") 297, Value.int 30 0, Value.int 1 0, Value.int 0 0, Value.int 0 0, Value.int 3 0, Value.ref 74, Value.bool true, Value.int 181 0, Value.ref 75, Value.none, Value.ref 76, Value.ref 77, Value.ref 78, Value.int 300 0, Value.int 30 0, Value.str (Str.ofString "/claim/cut.py") 301] }) ::
    (nat_lit 80, { cls := Value.type "function", data := Data.func { name := Str.ofString "split_name", qualname := Str.ofString "split_name", params := a19, body := FuncBody.stmts b19, scope := c19, globals := 3, closure := [], defaults := Value.none, kwdefaults := Value.none, pyModule := Value.str (Str.ofString "emacs.events") 220, code := Value.ref 79 } }) ::
    (nat_lit 81, { cls := Value.type "tuple", data := Data.seq #[] }) ::
    (nat_lit 84, { cls := Value.type "code", data := Data.fields #[Value.str (Str.ofString "join_name") 303, Value.str (Str.ofString "join_name") 304, Value.str (Str.ofString "/claim/cut.py") 305, Value.int 36 0, Value.int 2 0, Value.int 0 0, Value.int 0 0, Value.int 3 0, Value.ref 81, Value.bool true, Value.int 181 0, Value.ref 82, Value.none, Value.none, Value.none, Value.ref 83, Value.int 306 0, Value.int 36 0, Value.str (Str.ofString "/claim/cut.py") 307] }) ::
    (nat_lit 85, { cls := Value.type "function", data := Data.func { name := Str.ofString "join_name", qualname := Str.ofString "join_name", params := a20, body := FuncBody.stmts b20, scope := c20, globals := 3, closure := [], defaults := Value.none, kwdefaults := Value.none, pyModule := Value.str (Str.ofString "emacs.events") 220, code := Value.ref 84 } }) ::
    (nat_lit 86, { cls := Value.type "tuple", data := Data.seq #[] }) ::
    (nat_lit 88, { cls := Value.type "tuple", data := Data.seq #[Value.str (Str.ofString "code") 312] }) ::
    (nat_lit 89, { cls := Value.type "tuple", data := Data.seq #[] }) ::
    (nat_lit 91, { cls := Value.type "code", data := Data.fields #[Value.str (Str.ofString "has_control_code") 309, Value.str (Str.ofString "has_control_code") 310, Value.str (Str.ofString "/claim/cut.py") 311, Value.int 38 0, Value.int 1 0, Value.int 0 0, Value.int 0 0, Value.int 3 0, Value.ref 86, Value.bool true, Value.int 181 0, Value.ref 87, Value.none, Value.ref 88, Value.ref 89, Value.ref 90, Value.int 313 0, Value.int 38 0, Value.str (Str.ofString "/claim/cut.py") 314] }) ::
    (nat_lit 92, { cls := Value.type "function", data := Data.func { name := Str.ofString "has_control_code", qualname := Str.ofString "has_control_code", params := a21, body := FuncBody.stmts b21, scope := c21, globals := 3, closure := [], defaults := Value.none, kwdefaults := Value.none, pyModule := Value.str (Str.ofString "emacs.events") 220, code := Value.ref 91 } }) ::
    (nat_lit 93, { cls := Value.type "tuple", data := Data.seq #[] }) ::
    (nat_lit 95, { cls := Value.type "tuple", data := Data.seq #[Value.str (Str.ofString "code") 319] }) ::
    (nat_lit 96, { cls := Value.type "tuple", data := Data.seq #[] }) ::
    (nat_lit 98, { cls := Value.type "code", data := Data.fields #[Value.str (Str.ofString "is_great") 316, Value.str (Str.ofString "is_great") 317, Value.str (Str.ofString "/claim/cut.py") 318, Value.int 40 0, Value.int 1 0, Value.int 0 0, Value.int 0 0, Value.int 3 0, Value.ref 93, Value.bool true, Value.int 181 0, Value.ref 94, Value.none, Value.ref 95, Value.ref 96, Value.ref 97, Value.int 320 0, Value.int 40 0, Value.str (Str.ofString "/claim/cut.py") 321] }) ::
    (nat_lit 99, { cls := Value.type "function", data := Data.func { name := Str.ofString "is_great", qualname := Str.ofString "is_great", params := a22, body := FuncBody.stmts b22, scope := c21, globals := 3, closure := [], defaults := Value.none, kwdefaults := Value.none, pyModule := Value.str (Str.ofString "emacs.events") 220, code := Value.ref 98 } }) ::
    (nat_lit 100, { cls := Value.type "tuple", data := Data.seq #[] }) ::
    (nat_lit 102, { cls := Value.type "tuple", data := Data.seq #[Value.str (Str.ofString "event") 326, Value.str (Str.ofString "code") 327, Value.str (Str.ofString "bits") 328] }) ::
    (nat_lit 103, { cls := Value.type "tuple", data := Data.seq #[] }) ::
    (nat_lit 105, { cls := Value.type "code", data := Data.fields #[Value.str (Str.ofString "with_control") 323, Value.str (Str.ofString "with_control") 324, Value.str (Str.ofString "/claim/cut.py") 325, Value.int 42 0, Value.int 1 0, Value.int 0 0, Value.int 0 0, Value.int 3 0, Value.ref 100, Value.bool true, Value.int 181 0, Value.ref 101, Value.none, Value.ref 102, Value.ref 103, Value.ref 104, Value.int 329 0, Value.int 42 0, Value.str (Str.ofString "/claim/cut.py") 330] }) ::
    (nat_lit 106, { cls := Value.type "function", data := Data.func { name := Str.ofString "with_control", qualname := Str.ofString "with_control", params := a23, body := FuncBody.stmts b23, scope := c23, globals := 3, closure := [], defaults := Value.none, kwdefaults := Value.none, pyModule := Value.str (Str.ofString "emacs.events") 220, code := Value.ref 105 } }) ::
    (nat_lit 107, { cls := Value.type "tuple", data := Data.seq #[] }) ::
    (nat_lit 109, { cls := Value.type "tuple", data := Data.seq #[Value.str (Str.ofString "event") 335, Value.str (Str.ofString "letter") 336] }) ::
    (nat_lit 110, { cls := Value.type "tuple", data := Data.seq #[] }) ::
    (nat_lit 112, { cls := Value.type "code", data := Data.fields #[Value.str (Str.ofString "with_letter") 332, Value.str (Str.ofString "with_letter") 333, Value.str (Str.ofString "/claim/cut.py") 334, Value.int 50 0, Value.int 2 0, Value.int 0 0, Value.int 0 0, Value.int 3 0, Value.ref 107, Value.bool true, Value.int 181 0, Value.ref 108, Value.none, Value.ref 109, Value.ref 110, Value.ref 111, Value.int 337 0, Value.int 50 0, Value.str (Str.ofString "/claim/cut.py") 338] }) ::
    (nat_lit 113, { cls := Value.type "function", data := Data.func { name := Str.ofString "with_letter", qualname := Str.ofString "with_letter", params := a24, body := FuncBody.stmts b24, scope := c24, globals := 3, closure := [], defaults := Value.none, kwdefaults := Value.none, pyModule := Value.str (Str.ofString "emacs.events") 220, code := Value.ref 112 } }) ::
    (nat_lit 114, { cls := Value.type "tuple", data := Data.seq #[] }) ::
    (nat_lit 116, { cls := Value.type "tuple", data := Data.seq #[Value.str (Str.ofString "base") 343, Value.str (Str.ofString "letters") 344, Value.str (Str.ofString "own") 345, Value.str (Str.ofString "name") 346, Value.str (Str.ofString "letter") 347] }) ::
    (nat_lit 117, { cls := Value.type "tuple", data := Data.seq #[] }) ::
    (nat_lit 119, { cls := Value.type "code", data := Data.fields #[Value.str (Str.ofString "make_event") 340, Value.str (Str.ofString "make_event") 341, Value.str (Str.ofString "/claim/cut.py") 342, Value.int 54 0, Value.int 2 0, Value.int 0 0, Value.int 0 0, Value.int 3 0, Value.ref 114, Value.bool true, Value.int 181 0, Value.ref 115, Value.none, Value.ref 116, Value.ref 117, Value.ref 118, Value.int 348 0, Value.int 54 0, Value.str (Str.ofString "/claim/cut.py") 349] }) ::
    (nat_lit 120, { cls := Value.type "function", data := Data.func { name := Str.ofString "make_event", qualname := Str.ofString "make_event", params := a25, body := FuncBody.stmts b25, scope := c25, globals := 3, closure := [], defaults := Value.none, kwdefaults := Value.none, pyModule := Value.str (Str.ofString "emacs.events") 220, code := Value.ref 119 } }) ::
    (nat_lit 121, { cls := Value.type "tuple", data := Data.seq #[] }) ::
    (nat_lit 123, { cls := Value.type "tuple", data := Data.seq #[Value.str (Str.ofString "code") 354] }) ::
    (nat_lit 124, { cls := Value.type "tuple", data := Data.seq #[] }) ::
    (nat_lit 126, { cls := Value.type "code", data := Data.fields #[Value.str (Str.ofString "is_control_code") 351, Value.str (Str.ofString "is_control_code") 352, Value.str (Str.ofString "/claim/cut.py") 353, Value.int 61 0, Value.int 1 0, Value.int 0 0, Value.int 0 0, Value.int 3 0, Value.ref 121, Value.bool true, Value.int 181 0, Value.ref 122, Value.none, Value.ref 123, Value.ref 124, Value.ref 125, Value.int 355 0, Value.int 61 0, Value.str (Str.ofString "/claim/cut.py") 356] }) ::
    (nat_lit 127, { cls := Value.type "function", data := Data.func { name := Str.ofString "is_control_code", qualname := Str.ofString "is_control_code", params := a26, body := FuncBody.stmts b26, scope := c21, globals := 3, closure := [], defaults := Value.none, kwdefaults := Value.none, pyModule := Value.str (Str.ofString "emacs.events") 220, code := Value.ref 126 } }) ::
    (nat_lit 128, { cls := Value.type "tuple", data := Data.seq #[] }) ::
    (nat_lit 130, { cls := Value.type "tuple", data := Data.seq #[Value.str (Str.ofString "event") 361] }) ::
    (nat_lit 131, { cls := Value.type "tuple", data := Data.seq #[] }) ::
    (nat_lit 133, { cls := Value.type "code", data := Data.fields #[Value.str (Str.ofString "has_meta") 358, Value.str (Str.ofString "has_meta") 359, Value.str (Str.ofString "/claim/cut.py") 360, Value.int 63 0, Value.int 1 0, Value.int 0 0, Value.int 0 0, Value.int 3 0, Value.ref 128, Value.bool true, Value.int 181 0, Value.ref 129, Value.none, Value.ref 130, Value.ref 131, Value.ref 132, Value.int 362 0, Value.int 63 0, Value.str (Str.ofString "/claim/cut.py") 363] }) ::
    (nat_lit 134, { cls := Value.type "function", data := Data.func { name := Str.ofString "has_meta", qualname := Str.ofString "has_meta", params := a27, body := FuncBody.stmts b27, scope := c27, globals := 3, closure := [], defaults := Value.none, kwdefaults := Value.none, pyModule := Value.str (Str.ofString "emacs.events") 220, code := Value.ref 133 } }) ::
    (nat_lit 135, { cls := Value.type "tuple", data := Data.seq #[Value.int 0 367, Value.str (Str.ofString "NUL") 368] }) ::
    (nat_lit 136, { cls := Value.type "tuple", data := Data.seq #[Value.int 9 369, Value.str (Str.ofString "TAB") 370] }) ::
    (nat_lit 137, { cls := Value.type "tuple", data := Data.seq #[Value.int 10 371, Value.str (Str.ofString "LFD") 372] }) ::
    (nat_lit 138, { cls := Value.type "tuple", data := Data.seq #[Value.int 13 373, Value.str (Str.ofString "RET") 374] }) ::
    (nat_lit 139, { cls := Value.type "tuple", data := Data.seq #[Value.int 27 375, Value.str (Str.ofString "ESC") 376] }) ::
    (nat_lit 140, { cls := Value.type "tuple", data := Data.seq #[Value.int 32 377, Value.str (Str.ofString "SPC") 378] }) ::
    (nat_lit 141, { cls := Value.type "tuple", data := Data.seq #[Value.int 127 379, Value.str (Str.ofString "DEL") 380] }) ::
    (nat_lit 142, { cls := Value.type "tuple", data := Data.seq #[Value.ref 135, Value.ref 136, Value.ref 137, Value.ref 138, Value.ref 139, Value.ref 140, Value.ref 141] }) ::
    (nat_lit 143, { cls := Value.type "tuple", data := Data.seq #[Value.int 9 384, Value.int 13 385, Value.int 27 386] }) ::
    (nat_lit 144, { cls := Value.type "tuple", data := Data.seq #[] }) ::
    (nat_lit 146, { cls := Value.type "tuple", data := Data.seq #[Value.str (Str.ofString "name") 391, Value.str (Str.ofString "code") 392, Value.str (Str.ofString "own") 393] }) ::
    (nat_lit 147, { cls := Value.type "tuple", data := Data.seq #[] }) ::
    (nat_lit 149, { cls := Value.type "code", data := Data.fields #[Value.str (Str.ofString "code_named") 388, Value.str (Str.ofString "code_named") 389, Value.str (Str.ofString "/claim/cut.py") 390, Value.int 69 0, Value.int 1 0, Value.int 0 0, Value.int 0 0, Value.int 3 0, Value.ref 144, Value.bool true, Value.int 181 0, Value.ref 145, Value.none, Value.ref 146, Value.ref 147, Value.ref 148, Value.int 394 0, Value.int 69 0, Value.str (Str.ofString "/claim/cut.py") 395] }) ::
    (nat_lit 150, { cls := Value.type "function", data := Data.func { name := Str.ofString "code_named", qualname := Str.ofString "code_named", params := a32, body := FuncBody.stmts b32, scope := c32, globals := 3, closure := [], defaults := Value.none, kwdefaults := Value.none, pyModule := Value.str (Str.ofString "emacs.keynames") 365, code := Value.ref 149 } }) ::
    (nat_lit 151, { cls := Value.type "tuple", data := Data.seq #[] }) ::
    (nat_lit 154, { cls := Value.type "code", data := Data.fields #[Value.str (Str.ofString "letters_text") 397, Value.str (Str.ofString "letters_text") 398, Value.str (Str.ofString "/claim/cut.py") 399, Value.int 74 0, Value.int 1 0, Value.int 0 0, Value.int 0 0, Value.int 3 0, Value.ref 151, Value.bool true, Value.int 181 0, Value.ref 152, Value.none, Value.none, Value.none, Value.ref 153, Value.int 400 0, Value.int 74 0, Value.str (Str.ofString "/claim/cut.py") 401] }) ::
    (nat_lit 155, { cls := Value.type "function", data := Data.func { name := Str.ofString "letters_text", qualname := Str.ofString "letters_text", params := a33, body := FuncBody.stmts b33, scope := c33, globals := 3, closure := [], defaults := Value.none, kwdefaults := Value.none, pyModule := Value.str (Str.ofString "emacs.keynames") 365, code := Value.ref 154 } }) ::
    (nat_lit 156, { cls := Value.type "tuple", data := Data.seq #[] }) ::
    (nat_lit 158, { cls := Value.type "tuple", data := Data.seq #[Value.str (Str.ofString "code") 406] }) ::
    (nat_lit 159, { cls := Value.type "tuple", data := Data.seq #[] }) ::
    (nat_lit 161, { cls := Value.type "code", data := Data.fields #[Value.str (Str.ofString "control_letter") 403, Value.str (Str.ofString "control_letter") 404, Value.str (Str.ofString "/claim/cut.py") 405, Value.int 76 0, Value.int 1 0, Value.int 0 0, Value.int 0 0, Value.int 3 0, Value.ref 156, Value.bool true, Value.int 181 0, Value.ref 157, Value.none, Value.ref 158, Value.ref 159, Value.ref 160, Value.int 407 0, Value.int 76 0, Value.str (Str.ofString "/claim/cut.py") 408] }) ::
    (nat_lit 162, { cls := Value.type "function", data := Data.func { name := Str.ofString "control_letter", qualname := Str.ofString "control_letter", params := a34, body := FuncBody.stmts b34, scope := c34, globals := 3, closure := [], defaults := Value.none, kwdefaults := Value.none, pyModule := Value.str (Str.ofString "emacs.keynames") 365, code := Value.ref 161 } }) ::
    (nat_lit 163, { cls := Value.type "tuple", data := Data.seq #[] }) ::
    (nat_lit 165, { cls := Value.type "tuple", data := Data.seq #[Value.str (Str.ofString "code") 413] }) ::
    (nat_lit 166, { cls := Value.type "tuple", data := Data.seq #[] }) ::
    (nat_lit 168, { cls := Value.type "code", data := Data.fields #[Value.str (Str.ofString "code_text") 410, Value.str (Str.ofString "code_text") 411, Value.str (Str.ofString "/claim/cut.py") 412, Value.int 78 0, Value.int 1 0, Value.int 0 0, Value.int 0 0, Value.int 3 0, Value.ref 163, Value.bool true, Value.int 181 0, Value.ref 164, Value.none, Value.ref 165, Value.ref 166, Value.ref 167, Value.int 414 0, Value.int 78 0, Value.str (Str.ofString "/claim/cut.py") 415] }) ::
    (nat_lit 169, { cls := Value.type "function", data := Data.func { name := Str.ofString "code_text", qualname := Str.ofString "code_text", params := a35, body := FuncBody.stmts b35, scope := c34, globals := 3, closure := [], defaults := Value.none, kwdefaults := Value.none, pyModule := Value.str (Str.ofString "emacs.keynames") 365, code := Value.ref 168 } }) ::
    (nat_lit 170, { cls := Value.type "tuple", data := Data.seq #[] }) ::
    (nat_lit 172, { cls := Value.type "tuple", data := Data.seq #[Value.str (Str.ofString "code") 420, Value.str (Str.ofString "has_meta") 421] }) ::
    (nat_lit 173, { cls := Value.type "tuple", data := Data.seq #[] }) ::
    (nat_lit 175, { cls := Value.type "code", data := Data.fields #[Value.str (Str.ofString "control_text") 417, Value.str (Str.ofString "control_text") 418, Value.str (Str.ofString "/claim/cut.py") 419, Value.int 84 0, Value.int 2 0, Value.int 0 0, Value.int 0 0, Value.int 3 0, Value.ref 170, Value.bool true, Value.int 181 0, Value.ref 171, Value.none, Value.ref 172, Value.ref 173, Value.ref 174, Value.int 422 0, Value.int 84 0, Value.str (Str.ofString "/claim/cut.py") 423] }) ::
    (nat_lit 176, { cls := Value.type "function", data := Data.func { name := Str.ofString "control_text", qualname := Str.ofString "control_text", params := a36, body := FuncBody.stmts b36, scope := c36, globals := 3, closure := [], defaults := Value.none, kwdefaults := Value.none, pyModule := Value.str (Str.ofString "emacs.keynames") 365, code := Value.ref 175 } }) ::
    (nat_lit 177, { cls := Value.type "tuple", data := Data.seq #[] }) ::
    (nat_lit 179, { cls := Value.type "tuple", data := Data.seq #[Value.str (Str.ofString "event") 428, Value.str (Str.ofString "code") 429, Value.str (Str.ofString "letters") 430, Value.str (Str.ofString "own") 431, Value.str (Str.ofString "text") 432] }) ::
    (nat_lit 180, { cls := Value.type "tuple", data := Data.seq #[] }) ::
    (nat_lit 182, { cls := Value.type "code", data := Data.fields #[Value.str (Str.ofString "sign_text") 425, Value.str (Str.ofString "sign_text") 426, Value.str (Str.ofString "/claim/cut.py") 427, Value.int 90 0, Value.int 1 0, Value.int 0 0, Value.int 0 0, Value.int 3 0, Value.ref 177, Value.bool true, Value.int 181 0, Value.ref 178, Value.none, Value.ref 179, Value.ref 180, Value.ref 181, Value.int 433 0, Value.int 90 0, Value.str (Str.ofString "/claim/cut.py") 434] }) ::
    (nat_lit 183, { cls := Value.type "function", data := Data.func { name := Str.ofString "sign_text", qualname := Str.ofString "sign_text", params := a37, body := FuncBody.stmts b37, scope := c37, globals := 3, closure := [], defaults := Value.none, kwdefaults := Value.none, pyModule := Value.str (Str.ofString "emacs.keynames") 365, code := Value.ref 182 } }) ::
    (nat_lit 184, { cls := Value.type "tuple", data := Data.seq #[] }) ::
    (nat_lit 186, { cls := Value.type "tuple", data := Data.seq #[Value.str (Str.ofString "event") 439, Value.str (Str.ofString "is_bare") 440, Value.str (Str.ofString "letters") 441, Value.str (Str.ofString "name") 442] }) ::
    (nat_lit 187, { cls := Value.type "tuple", data := Data.seq #[] }) ::
    (nat_lit 189, { cls := Value.type "code", data := Data.fields #[Value.str (Str.ofString "name_text") 436, Value.str (Str.ofString "name_text") 437, Value.str (Str.ofString "/claim/cut.py") 438, Value.int 97 0, Value.int 2 0, Value.int 0 0, Value.int 0 0, Value.int 3 0, Value.ref 184, Value.bool true, Value.int 181 0, Value.ref 185, Value.none, Value.ref 186, Value.ref 187, Value.ref 188, Value.int 443 0, Value.int 97 0, Value.str (Str.ofString "/claim/cut.py") 444] }) ::
    (nat_lit 190, { cls := Value.type "function", data := Data.func { name := Str.ofString "name_text", qualname := Str.ofString "name_text", params := a38, body := FuncBody.stmts b38, scope := c38, globals := 3, closure := [], defaults := Value.none, kwdefaults := Value.none, pyModule := Value.str (Str.ofString "emacs.keynames") 365, code := Value.ref 189 } }) ::
    (nat_lit 191, { cls := Value.type "tuple", data := Data.seq #[Value.bool false] }) ::
    (nat_lit 192, { cls := Value.type "tuple", data := Data.seq #[] }) ::
    (nat_lit 194, { cls := Value.type "tuple", data := Data.seq #[Value.str (Str.ofString "event") 449, Value.str (Str.ofString "is_bare") 450] }) ::
    (nat_lit 195, { cls := Value.type "tuple", data := Data.seq #[] }) ::
    (nat_lit 197, { cls := Value.type "code", data := Data.fields #[Value.str (Str.ofString "single_key_description") 446, Value.str (Str.ofString "single_key_description") 447, Value.str (Str.ofString "/claim/cut.py") 448, Value.int 100 0, Value.int 2 0, Value.int 0 0, Value.int 0 0, Value.int 3 0, Value.ref 192, Value.bool true, Value.int 181 0, Value.ref 193, Value.none, Value.ref 194, Value.ref 195, Value.ref 196, Value.int 451 0, Value.int 100 0, Value.str (Str.ofString "/claim/cut.py") 452] }) ::
    (nat_lit 198, { cls := Value.type "function", data := Data.func { name := Str.ofString "single_key_description", qualname := Str.ofString "single_key_description", params := a39, body := FuncBody.stmts b39, scope := c39, globals := 3, closure := [], defaults := Value.ref 191, kwdefaults := Value.none, pyModule := Value.str (Str.ofString "emacs.keynames") 365, code := Value.ref 197 } }) ::
    (nat_lit 199, { cls := Value.type "tuple", data := Data.seq #[] }) ::
    (nat_lit 201, { cls := Value.type "tuple", data := Data.seq #[Value.str (Str.ofString "sign") 457] }) ::
    (nat_lit 202, { cls := Value.type "tuple", data := Data.seq #[] }) ::
    (nat_lit 204, { cls := Value.type "code", data := Data.fields #[Value.str (Str.ofString "is_modifier_letter") 454, Value.str (Str.ofString "is_modifier_letter") 455, Value.str (Str.ofString "/claim/cut.py") 456, Value.int 102 0, Value.int 1 0, Value.int 0 0, Value.int 0 0, Value.int 3 0, Value.ref 199, Value.bool true, Value.int 181 0, Value.ref 200, Value.none, Value.ref 201, Value.ref 202, Value.ref 203, Value.int 458 0, Value.int 102 0, Value.str (Str.ofString "/claim/cut.py") 459] }) ::
    (nat_lit 205, { cls := Value.type "function", data := Data.func { name := Str.ofString "is_modifier_letter", qualname := Str.ofString "is_modifier_letter", params := a40, body := FuncBody.stmts b40, scope := c40, globals := 3, closure := [], defaults := Value.none, kwdefaults := Value.none, pyModule := Value.str (Str.ofString "emacs.keynames") 365, code := Value.ref 204 } }) ::
    (nat_lit 206, { cls := Value.type "tuple", data := Data.seq #[] }) ::
    (nat_lit 208, { cls := Value.type "tuple", data := Data.seq #[Value.str (Str.ofString "word") 474] }) ::
    (nat_lit 209, { cls := Value.type "tuple", data := Data.seq #[] }) ::
    (nat_lit 211, { cls := Value.type "code", data := Data.fields #[Value.str (Str.ofString "bad_word") 471, Value.str (Str.ofString "bad_word") 472, Value.str (Str.ofString "/claim/cut.py") 473, Value.int 109 0, Value.int 1 0, Value.int 0 0, Value.int 0 0, Value.int 3 0, Value.ref 206, Value.bool true, Value.int 181 0, Value.ref 207, Value.none, Value.ref 208, Value.ref 209, Value.ref 210, Value.int 475 0, Value.int 109 0, Value.str (Str.ofString "/claim/cut.py") 476] }) ::
    (nat_lit 212, { cls := Value.type "function", data := Data.func { name := Str.ofString "bad_word", qualname := Str.ofString "bad_word", params := a46, body := FuncBody.stmts b46, scope := c46, globals := 3, closure := [], defaults := Value.none, kwdefaults := Value.none, pyModule := Value.str (Str.ofString "emacs.kbd") 461, code := Value.ref 211 } }) ::
    (nat_lit 213, { cls := Value.type "tuple", data := Data.seq #[] }) ::
    (nat_lit 215, { cls := Value.type "tuple", data := Data.seq #[Value.str (Str.ofString "text") 481, Value.str (Str.ofString "found") 482, Value.str (Str.ofString "line") 483, Value.str (Str.ofString "word") 484] }) ::
    (nat_lit 216, { cls := Value.type "tuple", data := Data.seq #[] }) ::
    (nat_lit 218, { cls := Value.type "code", data := Data.fields #[Value.str (Str.ofString "words_of") 478, Value.str (Str.ofString "words_of") 479, Value.str (Str.ofString "/claim/cut.py") 480, Value.int 111 0, Value.int 1 0, Value.int 0 0, Value.int 0 0, Value.int 3 0, Value.ref 213, Value.bool true, Value.int 181 0, Value.ref 214, Value.none, Value.ref 215, Value.ref 216, Value.ref 217, Value.int 485 0, Value.int 111 0, Value.str (Str.ofString "/claim/cut.py") 486] }) ::
    (nat_lit 219, { cls := Value.type "function", data := Data.func { name := Str.ofString "words_of", qualname := Str.ofString "words_of", params := a47, body := FuncBody.stmts b47, scope := c47, globals := 3, closure := [], defaults := Value.none, kwdefaults := Value.none, pyModule := Value.str (Str.ofString "emacs.kbd") 461, code := Value.ref 218 } }) ::
    (nat_lit 220, { cls := Value.type "tuple", data := Data.seq #[] }) ::
    (nat_lit 222, { cls := Value.type "tuple", data := Data.seq #[Value.str (Str.ofString "line") 491, Value.str (Str.ofString "found") 492, Value.str (Str.ofString "word") 493, Value.str (Str.ofString "sign") 494] }) ::
    (nat_lit 223, { cls := Value.type "tuple", data := Data.seq #[] }) ::
    (nat_lit 225, { cls := Value.type "code", data := Data.fields #[Value.str (Str.ofString "blank_words") 488, Value.str (Str.ofString "blank_words") 489, Value.str (Str.ofString "/claim/cut.py") 490, Value.int 119 0, Value.int 1 0, Value.int 0 0, Value.int 0 0, Value.int 3 0, Value.ref 220, Value.bool true, Value.int 181 0, Value.ref 221, Value.none, Value.ref 222, Value.ref 223, Value.ref 224, Value.int 495 0, Value.int 119 0, Value.str (Str.ofString "/claim/cut.py") 496] }) ::
    (nat_lit 226, { cls := Value.type "function", data := Data.func { name := Str.ofString "blank_words", qualname := Str.ofString "blank_words", params := a48, body := FuncBody.stmts b48, scope := c48, globals := 3, closure := [], defaults := Value.none, kwdefaults := Value.none, pyModule := Value.str (Str.ofString "emacs.kbd") 461, code := Value.ref 225 } }) ::
    (nat_lit 227, { cls := Value.type "tuple", data := Data.seq #[] }) ::
    (nat_lit 229, { cls := Value.type "tuple", data := Data.seq #[Value.str (Str.ofString "word") 501, Value.str (Str.ofString "at") 502] }) ::
    (nat_lit 230, { cls := Value.type "tuple", data := Data.seq #[] }) ::
    (nat_lit 232, { cls := Value.type "code", data := Data.fields #[Value.str (Str.ofString "times_of") 498, Value.str (Str.ofString "times_of") 499, Value.str (Str.ofString "/claim/cut.py") 500, Value.int 130 0, Value.int 1 0, Value.int 0 0, Value.int 0 0, Value.int 3 0, Value.ref 227, Value.bool true, Value.int 181 0, Value.ref 228, Value.none, Value.ref 229, Value.ref 230, Value.ref 231, Value.int 503 0, Value.int 130 0, Value.str (Str.ofString "/claim/cut.py") 504] }) ::
    (nat_lit 233, { cls := Value.type "function", data := Data.func { name := Str.ofString "times_of", qualname := Str.ofString "times_of", params := a49, body := FuncBody.stmts b49, scope := c49, globals := 3, closure := [], defaults := Value.none, kwdefaults := Value.none, pyModule := Value.str (Str.ofString "emacs.kbd") 461, code := Value.ref 232 } }) ::
    (nat_lit 234, { cls := Value.type "tuple", data := Data.seq #[] }) ::
    (nat_lit 236, { cls := Value.type "tuple", data := Data.seq #[Value.str (Str.ofString "word") 509, Value.str (Str.ofString "letters") 510] }) ::
    (nat_lit 237, { cls := Value.type "tuple", data := Data.seq #[] }) ::
    (nat_lit 239, { cls := Value.type "code", data := Data.fields #[Value.str (Str.ofString "letters_ahead") 506, Value.str (Str.ofString "letters_ahead") 507, Value.str (Str.ofString "/claim/cut.py") 508, Value.int 139 0, Value.int 1 0, Value.int 0 0, Value.int 0 0, Value.int 3 0, Value.ref 234, Value.bool true, Value.int 181 0, Value.ref 235, Value.none, Value.ref 236, Value.ref 237, Value.ref 238, Value.int 511 0, Value.int 139 0, Value.str (Str.ofString "/claim/cut.py") 512] }) ::
    (nat_lit 240, { cls := Value.type "function", data := Data.func { name := Str.ofString "letters_ahead", qualname := Str.ofString "letters_ahead", params := a50, body := FuncBody.stmts b50, scope := c50, globals := 3, closure := [], defaults := Value.none, kwdefaults := Value.none, pyModule := Value.str (Str.ofString "emacs.kbd") 461, code := Value.ref 239 } }) ::
    (nat_lit 241, { cls := Value.type "tuple", data := Data.seq #[] }) ::
    (nat_lit 243, { cls := Value.type "tuple", data := Data.seq #[Value.str (Str.ofString "word") 517] }) ::
    (nat_lit 244, { cls := Value.type "tuple", data := Data.seq #[] }) ::
    (nat_lit 246, { cls := Value.type "code", data := Data.fields #[Value.str (Str.ofString "is_command_word") 514, Value.str (Str.ofString "is_command_word") 515, Value.str (Str.ofString "/claim/cut.py") 516, Value.int 145 0, Value.int 1 0, Value.int 0 0, Value.int 0 0, Value.int 3 0, Value.ref 241, Value.bool true, Value.int 181 0, Value.ref 242, Value.none, Value.ref 243, Value.ref 244, Value.ref 245, Value.int 518 0, Value.int 145 0, Value.str (Str.ofString "/claim/cut.py") 519] }) ::
    (nat_lit 247, { cls := Value.type "function", data := Data.func { name := Str.ofString "is_command_word", qualname := Str.ofString "is_command_word", params := a51, body := FuncBody.stmts b51, scope := c51, globals := 3, closure := [], defaults := Value.none, kwdefaults := Value.none, pyModule := Value.str (Str.ofString "emacs.kbd") 461, code := Value.ref 246 } }) ::
    (nat_lit 248, { cls := Value.type "tuple", data := Data.seq #[] }) ::
    (nat_lit 250, { cls := Value.type "tuple", data := Data.seq #[Value.str (Str.ofString "word") 524] }) ::
    (nat_lit 251, { cls := Value.type "tuple", data := Data.seq #[] }) ::
    (nat_lit 253, { cls := Value.type "code", data := Data.fields #[Value.str (Str.ofString "is_angled") 521, Value.str (Str.ofString "is_angled") 522, Value.str (Str.ofString "/claim/cut.py") 523, Value.int 147 0, Value.int 1 0, Value.int 0 0, Value.int 0 0, Value.int 3 0, Value.ref 248, Value.bool true, Value.int 181 0, Value.ref 249, Value.none, Value.ref 250, Value.ref 251, Value.ref 252, Value.int 525 0, Value.int 147 0, Value.str (Str.ofString "/claim/cut.py") 526] }) ::
    (nat_lit 254, { cls := Value.type "function", data := Data.func { name := Str.ofString "is_angled", qualname := Str.ofString "is_angled", params := a52, body := FuncBody.stmts b52, scope := c51, globals := 3, closure := [], defaults := Value.none, kwdefaults := Value.none, pyModule := Value.str (Str.ofString "emacs.kbd") 461, code := Value.ref 253 } }) ::
    (nat_lit 255, { cls := Value.type "tuple", data := Data.seq #[] }) ::
    (nat_lit 258, { cls := Value.type "code", data := Data.fields #[Value.str (Str.ofString "plain_signs") 528, Value.str (Str.ofString "plain_signs") 529, Value.str (Str.ofString "/claim/cut.py") 530, Value.int 149 0, Value.int 1 0, Value.int 0 0, Value.int 0 0, Value.int 3 0, Value.ref 255, Value.bool true, Value.int 181 0, Value.ref 256, Value.none, Value.none, Value.none, Value.ref 257, Value.int 531 0, Value.int 149 0, Value.str (Str.ofString "/claim/cut.py") 532] }) ::
    (nat_lit 259, { cls := Value.type "function", data := Data.func { name := Str.ofString "plain_signs", qualname := Str.ofString "plain_signs", params := a53, body := FuncBody.stmts b53, scope := c53, globals := 3, closure := [], defaults := Value.none, kwdefaults := Value.none, pyModule := Value.str (Str.ofString "emacs.kbd") 461, code := Value.ref 258 } }) ::
    (nat_lit 260, { cls := Value.type "tuple", data := Data.seq #[] }) ::
    (nat_lit 262, { cls := Value.type "tuple", data := Data.seq #[Value.str (Str.ofString "name") 537] }) ::
    (nat_lit 263, { cls := Value.type "tuple", data := Data.seq #[] }) ::
    (nat_lit 265, { cls := Value.type "code", data := Data.fields #[Value.str (Str.ofString "command_keys") 534, Value.str (Str.ofString "command_keys") 535, Value.str (Str.ofString "/claim/cut.py") 536, Value.int 151 0, Value.int 1 0, Value.int 0 0, Value.int 0 0, Value.int 3 0, Value.ref 260, Value.bool true, Value.int 181 0, Value.ref 261, Value.none, Value.ref 262, Value.ref 263, Value.ref 264, Value.int 538 0, Value.int 151 0, Value.str (Str.ofString "/claim/cut.py") 539] }) ::
    (nat_lit 266, { cls := Value.type "function", data := Data.func { name := Str.ofString "command_keys", qualname := Str.ofString "command_keys", params := a54, body := FuncBody.stmts b54, scope := c54, globals := 3, closure := [], defaults := Value.none, kwdefaults := Value.none, pyModule := Value.str (Str.ofString "emacs.kbd") 461, code := Value.ref 265 } }) ::
    (nat_lit 267, { cls := Value.type "tuple", data := Data.seq #[] }) ::
    (nat_lit 269, { cls := Value.type "tuple", data := Data.seq #[Value.str (Str.ofString "sign") 544] }) ::
    (nat_lit 270, { cls := Value.type "tuple", data := Data.seq #[] }) ::
    (nat_lit 272, { cls := Value.type "code", data := Data.fields #[Value.str (Str.ofString "caret_code") 541, Value.str (Str.ofString "caret_code") 542, Value.str (Str.ofString "/claim/cut.py") 543, Value.int 153 0, Value.int 1 0, Value.int 0 0, Value.int 0 0, Value.int 3 0, Value.ref 267, Value.bool true, Value.int 181 0, Value.ref 268, Value.none, Value.ref 269, Value.ref 270, Value.ref 271, Value.int 545 0, Value.int 153 0, Value.str (Str.ofString "/claim/cut.py") 546] }) ::
    (nat_lit 273, { cls := Value.type "function", data := Data.func { name := Str.ofString "caret_code", qualname := Str.ofString "caret_code", params := a55, body := FuncBody.stmts b55, scope := c55, globals := 3, closure := [], defaults := Value.none, kwdefaults := Value.none, pyModule := Value.str (Str.ofString "emacs.kbd") 461, code := Value.ref 272 } }) ::
    (nat_lit 274, { cls := Value.type "tuple", data := Data.seq #[] }) ::
    (nat_lit 276, { cls := Value.type "tuple", data := Data.seq #[Value.str (Str.ofString "letters") 551, Value.str (Str.ofString "name") 552, Value.str (Str.ofString "code") 553] }) ::
    (nat_lit 277, { cls := Value.type "tuple", data := Data.seq #[] }) ::
    (nat_lit 279, { cls := Value.type "code", data := Data.fields #[Value.str (Str.ofString "named_key") 548, Value.str (Str.ofString "named_key") 549, Value.str (Str.ofString "/claim/cut.py") 550, Value.int 155 0, Value.int 2 0, Value.int 0 0, Value.int 0 0, Value.int 3 0, Value.ref 274, Value.bool true, Value.int 181 0, Value.ref 275, Value.none, Value.ref 276, Value.ref 277, Value.ref 278, Value.int 554 0, Value.int 155 0, Value.str (Str.ofString "/claim/cut.py") 555] }) ::
    (nat_lit 280, { cls := Value.type "function", data := Data.func { name := Str.ofString "named_key", qualname := Str.ofString "named_key", params := a56, body := FuncBody.stmts b56, scope := c56, globals := 3, closure := [], defaults := Value.none, kwdefaults := Value.none, pyModule := Value.str (Str.ofString "emacs.kbd") 461, code := Value.ref 279 } }) ::
    (nat_lit 281, { cls := Value.type "tuple", data := Data.seq #[] }) ::
    (nat_lit 283, { cls := Value.type "tuple", data := Data.seq #[Value.str (Str.ofString "letters") 560, Value.str (Str.ofString "rest") 561, Value.str (Str.ofString "word") 562, Value.str (Str.ofString "code") 563] }) ::
    (nat_lit 284, { cls := Value.type "tuple", data := Data.seq #[] }) ::
    (nat_lit 286, { cls := Value.type "code", data := Data.fields #[Value.str (Str.ofString "modified_key") 557, Value.str (Str.ofString "modified_key") 558, Value.str (Str.ofString "/claim/cut.py") 559, Value.int 158 0, Value.int 3 0, Value.int 0 0, Value.int 0 0, Value.int 3 0, Value.ref 281, Value.bool true, Value.int 181 0, Value.ref 282, Value.none, Value.ref 283, Value.ref 284, Value.ref 285, Value.int 564 0, Value.int 158 0, Value.str (Str.ofString "/claim/cut.py") 565] }) ::
    (nat_lit 287, { cls := Value.type "function", data := Data.func { name := Str.ofString "modified_key", qualname := Str.ofString "modified_key", params := a57, body := FuncBody.stmts b57, scope := c57, globals := 3, closure := [], defaults := Value.none, kwdefaults := Value.none, pyModule := Value.str (Str.ofString "emacs.kbd") 461, code := Value.ref 286 } }) ::
    (nat_lit 288, { cls := Value.type "tuple", data := Data.seq #[] }) ::
    (nat_lit 290, { cls := Value.type "tuple", data := Data.seq #[Value.str (Str.ofString "word") 570, Value.str (Str.ofString "letters") 571, Value.str (Str.ofString "rest") 572] }) ::
    (nat_lit 291, { cls := Value.type "tuple", data := Data.seq #[] }) ::
    (nat_lit 293, { cls := Value.type "code", data := Data.fields #[Value.str (Str.ofString "word_keys") 567, Value.str (Str.ofString "word_keys") 568, Value.str (Str.ofString "/claim/cut.py") 569, Value.int 169 0, Value.int 1 0, Value.int 0 0, Value.int 0 0, Value.int 3 0, Value.ref 288, Value.bool true, Value.int 181 0, Value.ref 289, Value.none, Value.ref 290, Value.ref 291, Value.ref 292, Value.int 573 0, Value.int 169 0, Value.str (Str.ofString "/claim/cut.py") 574] }) ::
    (nat_lit 294, { cls := Value.type "function", data := Data.func { name := Str.ofString "word_keys", qualname := Str.ofString "word_keys", params := a58, body := FuncBody.stmts b58, scope := c58, globals := 3, closure := [], defaults := Value.none, kwdefaults := Value.none, pyModule := Value.str (Str.ofString "emacs.kbd") 461, code := Value.ref 293 } }) ::
    (nat_lit 295, { cls := Value.type "tuple", data := Data.seq #[] }) ::
    (nat_lit 297, { cls := Value.type "tuple", data := Data.seq #[Value.str (Str.ofString "text") 579, Value.str (Str.ofString "found") 580, Value.str (Str.ofString "word") 581, Value.str (Str.ofString "times") 582, Value.str (Str.ofString "rest") 583] }) ::
    (nat_lit 298, { cls := Value.type "tuple", data := Data.seq #[] }) ::
    (nat_lit 300, { cls := Value.type "code", data := Data.fields #[Value.str (Str.ofString "kbd") 576, Value.str (Str.ofString "kbd") 577, Value.str (Str.ofString "/claim/cut.py") 578, Value.int 178 0, Value.int 1 0, Value.int 0 0, Value.int 0 0, Value.int 3 0, Value.ref 295, Value.bool true, Value.int 181 0, Value.ref 296, Value.none, Value.ref 297, Value.ref 298, Value.ref 299, Value.int 584 0, Value.int 178 0, Value.str (Str.ofString "/claim/cut.py") 585] }) ::
    (nat_lit 301, { cls := Value.type "function", data := Data.func { name := Str.ofString "kbd", qualname := Str.ofString "kbd", params := a59, body := FuncBody.stmts b59, scope := c59, globals := 3, closure := [], defaults := Value.none, kwdefaults := Value.none, pyModule := Value.str (Str.ofString "emacs.kbd") 461, code := Value.ref 300 } }) ::
    (nat_lit 302, { cls := Value.type "tuple", data := Data.seq #[] }) ::
    (nat_lit 304, { cls := Value.type "tuple", data := Data.seq #[Value.str (Str.ofString "keys") 592, Value.str (Str.ofString "found") 593, Value.str (Str.ofString "is_open") 594, Value.str (Str.ofString "event") 595] }) ::
    (nat_lit 305, { cls := Value.type "tuple", data := Data.seq #[] }) ::
    (nat_lit 307, { cls := Value.type "code", data := Data.fields #[Value.str (Str.ofString "described") 589, Value.str (Str.ofString "described") 590, Value.str (Str.ofString "/claim/cut.py") 591, Value.int 187 0, Value.int 1 0, Value.int 0 0, Value.int 0 0, Value.int 3 0, Value.ref 302, Value.bool true, Value.int 181 0, Value.ref 303, Value.none, Value.ref 304, Value.ref 305, Value.ref 306, Value.int 596 0, Value.int 187 0, Value.str (Str.ofString "/claim/cut.py") 597] }) ::
    (nat_lit 308, { cls := Value.type "function", data := Data.func { name := Str.ofString "described", qualname := Str.ofString "described", params := a61, body := FuncBody.stmts b61, scope := c61, globals := 3, closure := [], defaults := Value.none, kwdefaults := Value.none, pyModule := Value.str (Str.ofString "emacs.describe") 587, code := Value.ref 307 } }) ::
    (nat_lit 309, { cls := Value.type "tuple", data := Data.seq #[] }) ::
    (nat_lit 310, { cls := Value.type "tuple", data := Data.seq #[Value.ref 309] }) ::
    (nat_lit 311, { cls := Value.type "tuple", data := Data.seq #[] }) ::
    (nat_lit 313, { cls := Value.type "tuple", data := Data.seq #[Value.str (Str.ofString "keys") 602, Value.str (Str.ofString "prefix") 603] }) ::
    (nat_lit 314, { cls := Value.type "tuple", data := Data.seq #[] }) ::
    (nat_lit 316, { cls := Value.type "code", data := Data.fields #[Value.str (Str.ofString "key_description") 599, Value.str (Str.ofString "key_description") 600, Value.str (Str.ofString "/claim/cut.py") 601, Value.int 203 0, Value.int 2 0, Value.int 0 0, Value.int 0 0, Value.int 3 0, Value.ref 311, Value.bool true, Value.int 181 0, Value.ref 312, Value.none, Value.ref 313, Value.ref 314, Value.ref 315, Value.int 604 0, Value.int 203 0, Value.str (Str.ofString "/claim/cut.py") 605] }) ::
    (nat_lit 317, { cls := Value.type "function", data := Data.func { name := Str.ofString "key_description", qualname := Str.ofString "key_description", params := a62, body := FuncBody.stmts b62, scope := c62, globals := 3, closure := [], defaults := Value.ref 310, kwdefaults := Value.none, pyModule := Value.str (Str.ofString "emacs.describe") 587, code := Value.ref 316 } }) ::
    (nat_lit 318, { cls := Value.type "tuple", data := Data.seq #[] }) ::
    (nat_lit 320, { cls := Value.type "tuple", data := Data.seq #[Value.str (Str.ofString "deck") 612, Value.str (Str.ofString "many") 613] }) ::
    (nat_lit 321, { cls := Value.type "tuple", data := Data.seq #[] }) ::
    (nat_lit 323, { cls := Value.type "code", data := Data.fields #[Value.str (Str.ofString "_law_draw") 609, Value.str (Str.ofString "_law_draw") 610, Value.str (Str.ofString "/claim/cut.py") 611, Value.int 206 0, Value.int 2 0, Value.int 0 0, Value.int 0 0, Value.int 3 0, Value.ref 318, Value.bool true, Value.int 181 0, Value.ref 319, Value.none, Value.ref 320, Value.ref 321, Value.ref 322, Value.int 614 0, Value.int 206 0, Value.str (Str.ofString "/claim/cut.py") 615] }) ::
    (nat_lit 324, { cls := Value.type "function", data := Data.func { name := Str.ofString "_law_draw", qualname := Str.ofString "_law_draw", params := a64, body := FuncBody.stmts b64, scope := c64, globals := 3, closure := [], defaults := Value.none, kwdefaults := Value.none, pyModule := Value.str (Str.ofString "law_np0049_01") 607, code := Value.ref 323 } }) ::
    (nat_lit 325, { cls := Value.type "tuple", data := Data.seq #[] }) ::
    (nat_lit 327, { cls := Value.type "tuple", data := Data.seq #[Value.str (Str.ofString "deck") 620, Value.str (Str.ofString "items") 621] }) ::
    (nat_lit 328, { cls := Value.type "tuple", data := Data.seq #[] }) ::
    (nat_lit 330, { cls := Value.type "code", data := Data.fields #[Value.str (Str.ofString "_law_pick") 617, Value.str (Str.ofString "_law_pick") 618, Value.str (Str.ofString "/claim/cut.py") 619, Value.int 211 0, Value.int 2 0, Value.int 0 0, Value.int 0 0, Value.int 3 0, Value.ref 325, Value.bool true, Value.int 181 0, Value.ref 326, Value.none, Value.ref 327, Value.ref 328, Value.ref 329, Value.int 622 0, Value.int 211 0, Value.str (Str.ofString "/claim/cut.py") 623] }) ::
    (nat_lit 331, { cls := Value.type "function", data := Data.func { name := Str.ofString "_law_pick", qualname := Str.ofString "_law_pick", params := a65, body := FuncBody.stmts b65, scope := c65, globals := 3, closure := [], defaults := Value.none, kwdefaults := Value.none, pyModule := Value.str (Str.ofString "law_np0049_01") 607, code := Value.ref 330 } }) ::
    (nat_lit 332, { cls := Value.type "tuple", data := Data.seq #[] }) ::
    (nat_lit 334, { cls := Value.type "tuple", data := Data.seq #[] }) ::
    (nat_lit 335, { cls := Value.type "tuple", data := Data.seq #[] }) ::
    (nat_lit 337, { cls := Value.type "code", data := Data.fields #[Value.str (Str.ofString "_law_bits") 625, Value.str (Str.ofString "_law_bits") 626, Value.str (Str.ofString "/claim/cut.py") 627, Value.int 213 0, Value.int 0 0, Value.int 0 0, Value.int 0 0, Value.int 3 0, Value.ref 332, Value.bool true, Value.int 181 0, Value.ref 333, Value.none, Value.ref 334, Value.ref 335, Value.ref 336, Value.int 628 0, Value.int 213 0, Value.str (Str.ofString "/claim/cut.py") 629] }) ::
    (nat_lit 338, { cls := Value.type "function", data := Data.func { name := Str.ofString "_law_bits", qualname := Str.ofString "_law_bits", params := a66, body := FuncBody.stmts b66, scope := c66, globals := 3, closure := [], defaults := Value.none, kwdefaults := Value.none, pyModule := Value.str (Str.ofString "law_np0049_01") 607, code := Value.ref 337 } }) ::
    (nat_lit 339, { cls := Value.type "tuple", data := Data.seq #[] }) ::
    (nat_lit 342, { cls := Value.type "code", data := Data.fields #[Value.str (Str.ofString "_law_key") 631, Value.str (Str.ofString "_law_key") 632, Value.str (Str.ofString "/claim/cut.py") 633, Value.int 215 0, Value.int 1 0, Value.int 0 0, Value.int 0 0, Value.int 3 0, Value.ref 339, Value.bool true, Value.int 181 0, Value.ref 340, Value.none, Value.none, Value.none, Value.ref 341, Value.int 634 0, Value.int 215 0, Value.str (Str.ofString "/claim/cut.py") 635] }) ::
    (nat_lit 343, { cls := Value.type "function", data := Data.func { name := Str.ofString "_law_key", qualname := Str.ofString "_law_key", params := a67, body := FuncBody.stmts b67, scope := c67, globals := 3, closure := [], defaults := Value.none, kwdefaults := Value.none, pyModule := Value.str (Str.ofString "law_np0049_01") 607, code := Value.ref 342 } }) ::
    (nat_lit 344, { cls := Value.type "tuple", data := Data.seq #[] }) ::
    (nat_lit 346, { cls := Value.type "tuple", data := Data.seq #[Value.str (Str.ofString "keys") 640, Value.str (Str.ofString "found") 641, Value.str (Str.ofString "at") 642, Value.str (Str.ofString "key") 643, Value.str (Str.ofString "after_here") 644] }) ::
    (nat_lit 347, { cls := Value.type "tuple", data := Data.seq #[] }) ::
    (nat_lit 349, { cls := Value.type "code", data := Data.fields #[Value.str (Str.ofString "_law_joined") 637, Value.str (Str.ofString "_law_joined") 638, Value.str (Str.ofString "/claim/cut.py") 639, Value.int 243 0, Value.int 1 0, Value.int 0 0, Value.int 0 0, Value.int 3 0, Value.ref 344, Value.bool true, Value.int 181 0, Value.ref 345, Value.none, Value.ref 346, Value.ref 347, Value.ref 348, Value.int 645 0, Value.int 243 0, Value.str (Str.ofString "/claim/cut.py") 646] }) ::
    (nat_lit 350, { cls := Value.type "function", data := Data.func { name := Str.ofString "_law_joined", qualname := Str.ofString "_law_joined", params := a68, body := FuncBody.stmts b68, scope := c68, globals := 3, closure := [], defaults := Value.none, kwdefaults := Value.none, pyModule := Value.str (Str.ofString "law_np0049_01") 607, code := Value.ref 349 } }) ::
    (nat_lit 351, { cls := Value.type "tuple", data := Data.seq #[] }) ::
    (nat_lit 353, { cls := Value.type "tuple", data := Data.seq #[Value.str (Str.ofString "deck") 651, Value.str (Str.ofString "words") 652, Value.str (Str.ofString "text") 653, Value.str (Str.ofString "word") 654] }) ::
    (nat_lit 354, { cls := Value.type "tuple", data := Data.seq #[] }) ::
    (nat_lit 356, { cls := Value.type "code", data := Data.fields #[Value.str (Str.ofString "_law_spread") 648, Value.str (Str.ofString "_law_spread") 649, Value.str (Str.ofString "/claim/cut.py") 650, Value.int 252 0, Value.int 2 0, Value.int 0 0, Value.int 0 0, Value.int 3 0, Value.ref 351, Value.bool true, Value.int 181 0, Value.ref 352, Value.none, Value.ref 353, Value.ref 354, Value.ref 355, Value.int 655 0, Value.int 252 0, Value.str (Str.ofString "/claim/cut.py") 656] }) ::
    (nat_lit 357, { cls := Value.type "function", data := Data.func { name := Str.ofString "_law_spread", qualname := Str.ofString "_law_spread", params := a69, body := FuncBody.stmts b69, scope := c69, globals := 3, closure := [], defaults := Value.none, kwdefaults := Value.none, pyModule := Value.str (Str.ofString "law_np0049_01") 607, code := Value.ref 356 } }) ::
    (nat_lit 358, { cls := Value.type "tuple", data := Data.seq #[] }) ::
    (nat_lit 360, { cls := Value.type "tuple", data := Data.seq #[Value.str (Str.ofString "text") 661, Value.str (Str.ofString "signal_here") 662] }) ::
    (nat_lit 361, { cls := Value.type "tuple", data := Data.seq #[] }) ::
    (nat_lit 363, { cls := Value.type "code", data := Data.fields #[Value.str (Str.ofString "_law_refused") 658, Value.str (Str.ofString "_law_refused") 659, Value.str (Str.ofString "/claim/cut.py") 660, Value.int 257 0, Value.int 1 0, Value.int 0 0, Value.int 0 0, Value.int 3 0, Value.ref 358, Value.bool true, Value.int 181 0, Value.ref 359, Value.none, Value.ref 360, Value.ref 361, Value.ref 362, Value.int 663 0, Value.int 257 0, Value.str (Str.ofString "/claim/cut.py") 664] }) ::
    (nat_lit 364, { cls := Value.type "function", data := Data.func { name := Str.ofString "_law_refused", qualname := Str.ofString "_law_refused", params := a70, body := FuncBody.stmts b70, scope := c70, globals := 3, closure := [], defaults := Value.none, kwdefaults := Value.none, pyModule := Value.str (Str.ofString "law_np0049_01") 607, code := Value.ref 363 } }) ::
    (nat_lit 365, { cls := Value.type "tuple", data := Data.seq #[] }) ::
    (nat_lit 368, { cls := Value.type "code", data := Data.fields #[Value.str (Str.ofString "law") 666, Value.str (Str.ofString "law") 667, Value.str (Str.ofString "/claim/cut.py") 668, Value.int 263 0, Value.int 1 0, Value.int 0 0, Value.int 0 0, Value.int 3 0, Value.ref 365, Value.bool true, Value.int 181 0, Value.ref 366, Value.none, Value.none, Value.none, Value.ref 367, Value.int 669 0, Value.int 263 0, Value.str (Str.ofString "/claim/cut.py") 670] }) ::
    (nat_lit 369, { cls := Value.type "function", data := Data.func { name := Str.ofString "law", qualname := Str.ofString "law", params := a71, body := FuncBody.stmts b71, scope := c71, globals := 3, closure := [], defaults := Value.none, kwdefaults := Value.none, pyModule := Value.str (Str.ofString "law_np0049_01") 607, code := Value.ref 368 } }) :: []
/-- the program without the statements that bind what the law does not read -/
noncomputable def hd.view_39 : Program := by
  refine' (_ : ∀ (s1 s3 s4 s5 s6 s7 s8 s9 s10 s11 s12 s13 s14 s15 s16 s17 s18 s19 s20 s21 s22 s23 s24 s25 s26 s27 s29 s30 s31 s32 s33 s34 s35 s36 s37 s38 s40 s42 s43 s44 s45 s46 s47 s48 s49 s50 s51 s52 s53 s54 s55 s56 s57 s58 s59 s61 s64 s65 s66 s67 s68 s69 s70 s71 : Stmt), zKeep (1 :: 3 :: 4 :: 5 :: 6 :: 7 :: 8 :: 9 :: 10 :: 11 :: 12 :: 13 :: 14 :: 15 :: 16 :: 17 :: 18 :: 19 :: 20 :: 21 :: 22 :: 23 :: 24 :: 25 :: 26 :: 27 :: 29 :: 30 :: 31 :: 32 :: 33 :: 34 :: 35 :: 36 :: 37 :: 38 :: 40 :: 42 :: 43 :: 44 :: 45 :: 46 :: 47 :: 48 :: 49 :: 50 :: 51 :: 52 :: 53 :: 54 :: 55 :: 56 :: 57 :: 58 :: 59 :: 61 :: 64 :: 65 :: 66 :: 67 :: 68 :: 69 :: 70 :: 71 :: []) = s1 :: s3 :: s4 :: s5 :: s6 :: s7 :: s8 :: s9 :: s10 :: s11 :: s12 :: s13 :: s14 :: s15 :: s16 :: s17 :: s18 :: s19 :: s20 :: s21 :: s22 :: s23 :: s24 :: s25 :: s26 :: s27 :: s29 :: s30 :: s31 :: s32 :: s33 :: s34 :: s35 :: s36 :: s37 :: s38 :: s40 :: s42 :: s43 :: s44 :: s45 :: s46 :: s47 :: s48 :: s49 :: s50 :: s51 :: s52 :: s53 :: s54 :: s55 :: s56 :: s57 :: s58 :: s59 :: s61 :: s64 :: s65 :: s66 :: s67 :: s68 :: s69 :: s70 :: s71 :: [] → Program) _ _ _ _ _ _ _ _ _ _ _ _ _ _ _ _ _ _ _ _ _ _ _ _ _ _ _ _ _ _ _ _ _ _ _ _ _ _ _ _ _ _ _ _ _ _ _ _ _ _ _ _ _ _ _ _ _ _ _ _ _ _ _ _ rfl
  exact fun s1 s3 s4 s5 s6 s7 s8 s9 s10 s11 s12 s13 s14 s15 s16 s17 s18 s19 s20 s21 s22 s23 s24 s25 s26 s27 s29 s30 s31 s32 s33 s34 s35 s36 s37 s38 s40 s42 s43 s44 s45 s46 s47 s48 s49 s50 s51 s52 s53 s54 s55 s56 s57 s58 s59 s61 s64 s65 s66 s67 s68 s69 s70 s71 _ => { PySem.Challenge.rw_np0049_01.row.toRowW.prog with main := { PySem.Challenge.rw_np0049_01.row.toRowW.prog.main with body := s1 :: s3 :: s4 :: s5 :: s6 :: s7 :: s8 :: s9 :: s10 :: s11 :: s12 :: s13 :: s14 :: s15 :: s16 :: s17 :: s18 :: s19 :: s20 :: s21 :: s22 :: s23 :: s24 :: s25 :: s26 :: s27 :: s29 :: s30 :: s31 :: s32 :: s33 :: s34 :: s35 :: s36 :: s37 :: s38 :: s40 :: s42 :: s43 :: s44 :: s45 :: s46 :: s47 :: s48 :: s49 :: s50 :: s51 :: s52 :: s53 :: s54 :: s55 :: s56 :: s57 :: s58 :: s59 :: s61 :: s64 :: s65 :: s66 :: s67 :: s68 :: s69 :: s70 :: s71 :: [] } }
noncomputable def topRunX (so : Nat → Option Value → Thread → Bool) (st : (Code → Sem Fin) → Program → World → SharedT → Thread → Option (SharedT × Thread)) (den : Code → Sem Fin) (p : Program) (w : World) (n₀ : Nat) (ann : Option Value) : Nat → SharedT → Thread → Option SharedT
  | 0, _, _ => none
  | n + 1, s, t => match through t with
    | true => some s
    | false => match so n₀ ann t with
      | false => none
      | true => match st den p w s t with
        | some (s', t') => topRunX so st den p w n₀ ann n s' t'
        | none => none
theorem topRunX_of {tb : String → Option Builtin} {p : Program} {w : World} {n₀ : Nat} {ann : Option Value} : ∀ {n : Nat} {s s' : SharedT} {t : Thread}, topRunX stepOk stepT (denote tb) p w n₀ ann n s t = some s' → topRun tb p w n₀ ann n s.abs t = some s'.abs
  | 0, _, _, _, h => by cases h
  | n + 1, s, s', t, h => by
    unfold topRunX at h
    unfold topRun
    cases he : through t with
    | true => rw [he] at h; cases h; rfl
    | false =>
      rw [he] at h
      cases hk : stepOk n₀ ann t with
      | false => rw [hk] at h; cases h
      | true =>
        rw [hk] at h
        cases hs : stepT (denote tb) p w s t with
        | none => rw [hs] at h; cases h
        | some r => obtain ⟨s₂, t₂⟩ := r; rw [hs] at h; rw [stepT_spec hs]; exact topRunX_of h
noncomputable def treeFrom : List Obj → Nat → BT → BT
  | [], _, t => t
  | o :: r, n, t => treeFrom r (n + 1) (t.ins n o)
noncomputable def bootT (P : Params) : BT := treeFrom (boot_heap P).objs.toList 0 .nil
noncomputable abbrev qOk := PySem.W.Fast.tw6613529449190102663
noncomputable abbrev qStep := PySem.W.Fast.tw10156331382660048174
noncomputable abbrev qDen := PySem.W.Fast.tw11892475500146522536 PySem.W.Fast.tw14364793385576792824
theorem boot_tree : ∀ w : World, absHeap (bootT w.params) 11 {} = boot_heap w.params := fun w => by kernel_rfl
theorem boot_look : ∀ w : World, ((boot_heap w.params).isNs mainGlobals, (boot_heap w.params).objs.size, (boot_heap w.params).nsMap mainGlobals "__annotations__") = (true, 11, some (.ref 6)) := fun w => by kernel_rfl
theorem left_whole {p q : Program} {loose : List Str} {Xt : Shared → Bool} {α : Type} {Yf : Shared → α} {Ya : World → α} {N : Nat} {g0 : Bool} {M : Nat}
    (open_ : ∀ w : World, (fencedOpening treeTable p w N).map (fun s => (s.heap, s.gens, s.drawn, s.toks)) = some (boot_heap w.params, Array.mk [], boot_drawn, boot_toks))
    (le : Nat.ble M N = true)
    (run : ∀ (w : World) (os : OsState), (topRunX stepOk stepT (denote treeTable) p w 11 (some (.ref 6)) M ⟨bootT w.params, 11, {}, Array.mk [], boot_drawn, boot_toks, os⟩ (topStub p)).map (fun s => ((staticsOk (importedModules p.main.body) (boot_heap w.params) s.abs.heap && namesBound p s.abs.heap && gensDone s.abs && laidKept (boot_heap w.params) s.abs.heap), openSeen q loose (importedModules p.main.body) Xt g0 s.abs, Yf s.abs)) = some (true, openGood q loose, Ya w)) : LeftO p q loose Xt Yf Ya N g0 := fun w => by
  obtain ⟨⟨h, gs, d, k, os⟩, e, e'⟩ := Option.map_eq_some_iff.mp (open_ w)
  obtain ⟨rfl, rfl, rfl, rfl⟩ : h = boot_heap w.params ∧ gs = Array.mk [] ∧ d = boot_drawn ∧ k = boot_toks := by simpa using e'
  obtain ⟨z1, z2, z3⟩ : _ ∧ _ ∧ _ := by simpa only [Prod.mk.injEq] using boot_look w
  obtain ⟨s', hr, hl⟩ := Option.map_eq_some_iff.mp (run w os)
  obtain ⟨l1, l2, l3⟩ : _ ∧ _ ∧ _ := by simpa only [Prod.mk.injEq] using hl
  have r := topRunX_of hr
  rw [show (SharedT.abs ⟨bootT w.params, 11, {}, Array.mk [], boot_drawn, boot_toks, os⟩) = ⟨boot_heap w.params, Array.mk [], boot_drawn, boot_toks, os⟩ from by unfold SharedT.abs; dsimp only; rw [boot_tree]] at r
  have r := topRun_mono (N - M) _ _ _ _ r
  rw [show M + (N - M) = N by have := Nat.le_of_ble_eq_true le; omega] at r
  have t : topFrom treeTable p w N ⟨boot_heap w.params, Array.mk [], boot_drawn, boot_toks, os⟩ = some s'.abs := by
    unfold topFrom
    dsimp only
    rw [z1, z2, z3, r]
    show (match staticsOk (importedModules p.main.body) (boot_heap w.params) s'.abs.heap && namesBound p s'.abs.heap && gensDone s'.abs && laidKept (boot_heap w.params) s'.abs.heap with | true => _ | false => _) = _
    rw [l1]
  unfold openEnds
  rw [e]
  show (topFrom treeTable p w N _).map _ = _
  rw [t]
  exact congrArg some (Prod.ext l2 l3)

noncomputable abbrev hd.as : List Addr := nat_lit 2 :: nat_lit 3 :: nat_lit 15 :: nat_lit 22 :: nat_lit 24 :: nat_lit 25 :: nat_lit 27 :: nat_lit 28 :: nat_lit 29 :: nat_lit 30 :: nat_lit 31 :: nat_lit 32 :: nat_lit 35 :: nat_lit 36 :: nat_lit 38 :: nat_lit 39 :: nat_lit 41 :: nat_lit 42 :: nat_lit 43 :: nat_lit 45 :: nat_lit 46 :: nat_lit 48 :: nat_lit 49 :: nat_lit 50 :: nat_lit 53 :: nat_lit 54 :: nat_lit 55 :: nat_lit 57 :: nat_lit 58 :: nat_lit 60 :: nat_lit 61 :: nat_lit 62 :: nat_lit 64 :: nat_lit 65 :: nat_lit 67 :: nat_lit 68 :: nat_lit 69 :: nat_lit 72 :: nat_lit 73 :: nat_lit 74 :: nat_lit 76 :: nat_lit 77 :: nat_lit 79 :: nat_lit 80 :: nat_lit 81 :: nat_lit 84 :: nat_lit 85 :: nat_lit 86 :: nat_lit 88 :: nat_lit 89 :: nat_lit 91 :: nat_lit 92 :: nat_lit 93 :: nat_lit 95 :: nat_lit 96 :: nat_lit 98 :: nat_lit 99 :: nat_lit 100 :: nat_lit 102 :: nat_lit 103 :: nat_lit 105 :: nat_lit 106 :: nat_lit 107 :: nat_lit 109 :: nat_lit 110 :: nat_lit 112 :: nat_lit 113 :: nat_lit 114 :: nat_lit 116 :: nat_lit 117 :: nat_lit 119 :: nat_lit 120 :: nat_lit 121 :: nat_lit 123 :: nat_lit 124 :: nat_lit 126 :: nat_lit 127 :: nat_lit 128 :: nat_lit 130 :: nat_lit 131 :: nat_lit 133 :: nat_lit 134 :: nat_lit 135 :: nat_lit 136 :: nat_lit 137 :: nat_lit 138 :: nat_lit 139 :: nat_lit 140 :: nat_lit 141 :: nat_lit 142 :: nat_lit 143 :: nat_lit 144 :: nat_lit 146 :: nat_lit 147 :: nat_lit 149 :: nat_lit 150 :: nat_lit 151 :: nat_lit 154 :: nat_lit 155 :: nat_lit 156 :: nat_lit 158 :: nat_lit 159 :: nat_lit 161 :: nat_lit 162 :: nat_lit 163 :: nat_lit 165 :: nat_lit 166 :: nat_lit 168 :: nat_lit 169 :: nat_lit 170 :: nat_lit 172 :: nat_lit 173 :: nat_lit 175 :: nat_lit 176 :: nat_lit 177 :: nat_lit 179 :: nat_lit 180 :: nat_lit 182 :: nat_lit 183 :: nat_lit 184 :: nat_lit 186 :: nat_lit 187 :: nat_lit 189 :: nat_lit 190 :: nat_lit 191 :: nat_lit 192 :: nat_lit 194 :: nat_lit 195 :: nat_lit 197 :: nat_lit 198 :: nat_lit 199 :: nat_lit 201 :: nat_lit 202 :: nat_lit 204 :: nat_lit 205 :: nat_lit 206 :: nat_lit 208 :: nat_lit 209 :: nat_lit 211 :: nat_lit 212 :: nat_lit 213 :: nat_lit 215 :: nat_lit 216 :: nat_lit 218 :: nat_lit 219 :: nat_lit 220 :: nat_lit 222 :: nat_lit 223 :: nat_lit 225 :: nat_lit 226 :: nat_lit 227 :: nat_lit 229 :: nat_lit 230 :: nat_lit 232 :: nat_lit 233 :: nat_lit 234 :: nat_lit 236 :: nat_lit 237 :: nat_lit 239 :: nat_lit 240 :: nat_lit 241 :: nat_lit 243 :: nat_lit 244 :: nat_lit 246 :: nat_lit 247 :: nat_lit 248 :: nat_lit 250 :: nat_lit 251 :: nat_lit 253 :: nat_lit 254 :: nat_lit 255 :: nat_lit 258 :: nat_lit 259 :: nat_lit 260 :: nat_lit 262 :: nat_lit 263 :: nat_lit 265 :: nat_lit 266 :: nat_lit 267 :: nat_lit 269 :: nat_lit 270 :: nat_lit 272 :: nat_lit 273 :: nat_lit 274 :: nat_lit 276 :: nat_lit 277 :: nat_lit 279 :: nat_lit 280 :: nat_lit 281 :: nat_lit 283 :: nat_lit 284 :: nat_lit 286 :: nat_lit 287 :: nat_lit 288 :: nat_lit 290 :: nat_lit 291 :: nat_lit 293 :: nat_lit 294 :: nat_lit 295 :: nat_lit 297 :: nat_lit 298 :: nat_lit 300 :: nat_lit 301 :: nat_lit 302 :: nat_lit 304 :: nat_lit 305 :: nat_lit 307 :: nat_lit 308 :: nat_lit 309 :: nat_lit 310 :: nat_lit 311 :: nat_lit 313 :: nat_lit 314 :: nat_lit 316 :: nat_lit 317 :: nat_lit 318 :: nat_lit 320 :: nat_lit 321 :: nat_lit 323 :: nat_lit 324 :: nat_lit 325 :: nat_lit 327 :: nat_lit 328 :: nat_lit 330 :: nat_lit 331 :: nat_lit 332 :: nat_lit 334 :: nat_lit 335 :: nat_lit 337 :: nat_lit 338 :: nat_lit 339 :: nat_lit 342 :: nat_lit 343 :: nat_lit 344 :: nat_lit 346 :: nat_lit 347 :: nat_lit 349 :: nat_lit 350 :: nat_lit 351 :: nat_lit 353 :: nat_lit 354 :: nat_lit 356 :: nat_lit 357 :: nat_lit 358 :: nat_lit 360 :: nat_lit 361 :: nat_lit 363 :: nat_lit 364 :: nat_lit 365 :: nat_lit 368 :: nat_lit 369 :: []
noncomputable abbrev hd.loose : List Str := ["ALT", "SUPER", "HYPER", "SHIFT", "CONTROL", "META", "CODES", "BITS", "single_key_description", "key_description"]
noncomputable abbrev hd.lv : List (Str × WData) := [("ALT", WData.int 4194304), ("SUPER", WData.int 8388608), ("HYPER", WData.int 16777216), ("SHIFT", WData.int 33554432), ("CONTROL", WData.int 67108864), ("META", WData.int 134217728), ("CODES", WData.int 4194304), ("BITS", WData.tuple [WData.int 4194304, WData.int 67108864, WData.int 16777216, WData.int 134217728, WData.int 33554432, WData.int 8388608])]
theorem hd.as_eq : ∀ P, hd.as = (hd.heap_39 P).map (·.1) := fun _ => by kernel_rfl
noncomputable abbrev hd.H : Hook := kHook hd.heap_39 hd.as hd.as_eq
noncomputable abbrev hd.Xt : Shared → Bool := fun s => xlAt hd.view_39 hd.lv s && recOk (RowW.records PySem.Challenge.rw_np0049_01.row.toRowW) s
theorem hd.boot : ∀ w : World, (fencedOpening treeTable PySem.Challenge.pw_np0049_01 w 4028).map (fun s => (s.heap, s.gens, s.drawn, s.toks)) = some (boot_heap w.params, Array.mk [], boot_drawn, boot_toks) :=
  boot_open (by kernel_rfl) (by decide) (fun s => by kernel_rfl)
noncomputable abbrev qSeen := @PySem.W.Fast.tw4187177175401517315
theorem q_run {p : Program} {w : World} {n : Nat} {s : SharedT} {t : Thread} : topRunX stepOk stepT (denote treeTable) p w 11 (some (.ref 6)) n s t = topRunX qOk qStep qDen p w 11 (some (.ref 6)) n s t := by
  rw [PySem.W.Fast.te6613529449190102663, PySem.W.Fast.te10156331382660048174, PySem.W.Fast.te11892475500146522536, PySem.W.Fast.te14364793385576792824]
theorem hd.run1 : ∀ (w : World) (os : OsState), (topRunX qOk qStep qDen PySem.Challenge.pw_np0049_01 w 11 (some (.ref 6)) 4000 ⟨bootT w.params, 11, {}, Array.mk [], boot_drawn, boot_toks, os⟩ (topStub PySem.Challenge.pw_np0049_01)).map (fun s => ((staticsOk (importedModules PySem.Challenge.pw_np0049_01.main.body) (boot_heap w.params) s.abs.heap && namesBound PySem.Challenge.pw_np0049_01 s.abs.heap && gensDone s.abs && laidKept (boot_heap w.params) s.abs.heap), qSeen hd.view_39 hd.loose (importedModules PySem.Challenge.pw_np0049_01.main.body) hd.Xt true s.abs, hd.H.obs s.abs)) = some (true, openGood hd.view_39 hd.loose, hd.H.val w) := by
  intro w os
  kernel_rfl
theorem hd.left : LeftO PySem.Challenge.pw_np0049_01 hd.view_39 hd.loose hd.Xt hd.H.obs hd.H.val 4028 := by
  refine left_whole (M := 4000) hd.boot (by decide) ?_
  intro w os
  rw [q_run, PySem.W.Fast.te4187177175401517315]
  exact hd.run1 w os
theorem hd.said : PySem.Challenge.rw_np0049_01.wellSaid = true := by
  rw [PySem.W.Fast.te9446332074065402090]
  kernel_rfl
theorem hd {d : DefRec} {kwd : List (Str × PySem.Expr)} (h1 : defOf hd.view_39 PySem.Challenge.rw_np0049_01.row.name = some (d, kwd)) (h2 : PySem.Challenge.rw_np0049_01.row.prog.theDef PySem.Challenge.rw_np0049_01.row.name = some (d.params, d.body, d.scope)) (h3 : kwWritten? d.params.kwonlyargs d.params.kw_defaults = some kwd)
    (walk : WalkO hd.view_39 hd.loose (XL hd.view_39 hd.lv) hd.H.says PySem.Challenge.rw_np0049_01.row.toRowW d kwd fun f vs => call f vs) : PySem.Challenge.rw_np0049_01.Holds := by
  refine holds_law hd.said fun said => ?_
  refine holds_open (q := hd.view_39) (loose := hd.loose) (Xt := hd.Xt) (XP := XL hd.view_39 hd.lv) (Yf := hd.H.obs) (Ya := hd.H.val) (YP := hd.H.says) (N := 4028) hd.left hd.H.of hd.H.keeps (fun s e => xl_of s (Bool.and_eq_true_iff.mp e).1) XL.keeps h1 h2 h3 (fun s e => recFacts_of (Bool.and_eq_true_iff.mp e).2) (by rfl) said (by kernel_rfl) ⟨rfl, rfl, rfl, rfl, rfl, by decide +kernel⟩ ?hw walk
  w_witness2
end
-- KbText
section
set_option maxRecDepth 100000
set_option maxHeartbeats 8000000
/-- a text's signs -/
noncomputable def Lst (x : Str) : List Nat := x.cps.toList
/-- the text of the signs -/
noncomputable def Tx (l : List Nat) : Str := ⟨l.toArray⟩
theorem lst_Tx (l : List Nat) : Lst (Tx l) = l := by simp [Lst, Tx]
theorem T_lst (x : Str) : Tx (Lst x) = x := by simp [Lst, Tx]
theorem lst_inj {x y : Str} (h : Lst x = Lst y) : x = y := by rw [← T_lst x, ← T_lst y, h]
theorem eq_T {x : Str} {l : List Nat} (h : Lst x = l) : x = Tx l := by rw [← h, T_lst]
theorem lst_len (x : Str) : x.length = (Lst x).length := by simp [Lst, Str.length]
theorem T_len (l : List Nat) : (Tx l).length = l.length := by rw [lst_len, lst_Tx]
theorem lst_app (x y : Str) : Lst (x ++ y) = Lst x ++ Lst y := by
  unfold Lst
  rw [PySem.Str.cps_append, Array.toList_append]
theorem T_app (a b : List Nat) : Tx a ++ Tx b = Tx (a ++ b) := lst_inj (by rw [lst_app, lst_Tx, lst_Tx, lst_Tx])
theorem lst_one (c : Nat) : Lst ⟨#[c]⟩ = [c] := rfl
theorem T_one (c : Nat) : (⟨#[c]⟩ : Str) = Tx [c] := rfl
theorem lst_empty : Lst Str.empty = [] := rfl
theorem beq_lst (x y : Str) : (x == y) = (Lst x == Lst y) := by
  cases h : (Lst x == Lst y) with
  | true => rw [lst_inj (eq_of_beq h)]; exact beq_self_eq_true y
  | false =>
    apply Bool.eq_false_iff.mpr
    intro e
    rw [eq_of_beq e] at h
    simp at h
theorem bne_lst (x y : Str) : (x != y) = (Lst x != Lst y) := by
  show (!(x == y)) = !(Lst x == Lst y)
  rw [beq_lst]
theorem lst_item {x : Str} {i : Int} {c : Nat} (h0 : 0 ≤ i) (h : (Lst x)[i.toNat]? = some c) : Txt.item x i = Tx [c] := by
  have h' : x.cps[i.toNat]? = some c := by rw [← h, Lst, Array.getElem?_toList]
  have hlt : i.toNat < x.cps.size := (Array.getElem?_eq_some_iff.mp h').1
  show (⟨#[((Txt.charAt x i)).getD 0]⟩ : Str) = _
  have : Txt.charAt x i = some c := by
    unfold Txt.charAt
    rw [StrLaws.seqIndex_nonneg h0 (by show i < ((x.cps.size : Nat) : Int); omega)]
    simpa using h'
  rw [this]; rfl
theorem lst_item_neg {x : Str} {i : Int} {c : Nat} (h0 : i < 0) (h1 : -((Lst x).length : Int) ≤ i) (h : (Lst x)[(i + (Lst x).length).toNat]? = some c) : Txt.item x i = Tx [c] := by
  have hl : x.cps.size = (Lst x).length := by simp [Lst]
  have h' : x.cps[(i + (Lst x).length).toNat]? = some c := by rw [← h, Lst, Array.getElem?_toList]
  show (⟨#[((Txt.charAt x _)).getD 0]⟩ : Str) = _
  have : Txt.charAt x i = some c := by
    unfold Txt.charAt
    rw [StrLaws.seqIndex_neg h0 (by rw [lst_len]; exact h1), lst_len]
    simpa using h'
  rw [this]; rfl
/-- a bound that a slice takes -/
noncomputable def clip (n : Nat) (d : Nat) : Option Int → Nat
  | none => d
  | some i => (max 0 (min (if i < 0 then i + n else i) (n : Int))).toNat
theorem slice_clip (x : Str) (l u : Option Int) : Lst (Txt.slice x l u) = ((Lst x).drop (clip (Lst x).length 0 l)).take (clip (Lst x).length (Lst x).length u - clip (Lst x).length 0 l) := by
  have hn : x.length = (Lst x).length := lst_len x
  have key : ∀ a b : Nat, a ≤ (Lst x).length → b ≤ (Lst x).length → Builtin.Str.strSliceIndices l u 1 x.length = sliceRange (a : Int) (b : Int) 1 → Lst (Txt.slice x l u) = ((Lst x).drop a).take (b - a) := by
    intro a b ha hb e
    by_cases hab : a ≤ b
    · have e2 : Builtin.Str.strSliceIndices (some (a : Int)) (some (b : Int)) 1 x.length = sliceRange (a : Int) (b : Int) 1 := by
        unfold Builtin.Str.strSliceIndices
        have h1 : max (0 : Int) (min (if (a : Int) < 0 then (a : Int) + (x.length : Int) else a) (x.length : Int)) = a := by rw [if_neg (by omega), hn]; omega
        have h2 : max (0 : Int) (min (if (b : Int) < 0 then (b : Int) + (x.length : Int) else b) (x.length : Int)) = b := by rw [if_neg (by omega), hn]; omega
        simp only [show (1 : Int) > 0 by decide, if_true]
        rw [h1, h2]
      have e3 : Txt.slice x l u = StrLaws.sliceText x (some (a : Int)) (some (b : Int)) := by
        unfold Txt.slice StrLaws.sliceText
        rw [e, e2]
      rw [e3, StrLaws.sliceText_nat x hab (by rw [hn]; exact hb)]
      simp [Lst]
    · have e0 : Builtin.Str.strSliceIndices l u 1 x.length = [] := by
        rw [e]
        unfold sliceRange
        simp only [show (1 : Int) > 0 by decide, if_true]
        rw [if_neg (by omega)]
        rfl
      have hba : b - a = 0 := by omega
      rw [hba, List.take_zero]
      unfold Txt.slice
      rw [e0]
      split
      · rename_i h
        have : x.length = 0 := by simpa using (by simpa using h : (0 : Nat) = x.length).symm
        rw [hn] at this
        exact List.length_eq_zero_iff.mp this
      · rfl
  refine key _ _ ?_ ?_ ?_
  · cases l with
    | none => exact Nat.zero_le _
    | some i => show (max 0 (min (if i < 0 then i + ((Lst x).length : Int) else i) ((Lst x).length : Int))).toNat ≤ _; omega
  · cases u with
    | none => exact Nat.le_refl _
    | some i => show (max 0 (min (if i < 0 then i + ((Lst x).length : Int) else i) ((Lst x).length : Int))).toNat ≤ _; omega
  · unfold Builtin.Str.strSliceIndices
    simp only [show (1 : Int) > 0 by decide, if_true, hn]
    congr 1
    · cases l with
      | none => rfl
      | some i => show max 0 (min (if i < 0 then i + ((Lst x).length : Int) else i) ((Lst x).length : Int)) = (((max 0 (min (if i < 0 then i + ((Lst x).length : Int) else i) ((Lst x).length : Int))).toNat : Nat) : Int); omega
    · cases u with
      | none => rfl
      | some i => show max 0 (min (if i < 0 then i + ((Lst x).length : Int) else i) ((Lst x).length : Int)) = (((max 0 (min (if i < 0 then i + ((Lst x).length : Int) else i) ((Lst x).length : Int))).toNat : Nat) : Int); omega
theorem slice_from (x : Str) (i : Nat) : Lst (Txt.slice x (some (i : Int)) none) = (Lst x).drop i := by
  rw [slice_clip]
  have : clip (Lst x).length 0 (some (i : Int)) = min i (Lst x).length := by
    show (max 0 (min (if (i : Int) < 0 then (i : Int) + ((Lst x).length : Int) else i) ((Lst x).length : Int))).toNat = _
    rw [if_neg (by omega)]; omega
  rw [this]
  show ((Lst x).drop _).take ((Lst x).length - _) = _
  by_cases h : i ≤ (Lst x).length
  · rw [Nat.min_eq_left h, List.take_of_length_le (by rw [List.length_drop]; omega)]
  · rw [Nat.min_eq_right (by omega), List.drop_of_length_le (Nat.le_refl _), List.drop_of_length_le (by omega), List.take_nil]
theorem slice_to (x : Str) (i : Nat) : Lst (Txt.slice x none (some (i : Int))) = (Lst x).take i := by
  rw [slice_clip]
  have : clip (Lst x).length (Lst x).length (some (i : Int)) = min i (Lst x).length := by
    show (max 0 (min (if (i : Int) < 0 then (i : Int) + ((Lst x).length : Int) else i) ((Lst x).length : Int))).toNat = _
    rw [if_neg (by omega)]; omega
  rw [this]
  show ((Lst x).drop 0).take (_ - 0) = _
  rw [List.drop_zero, Nat.sub_zero]
  by_cases h : i ≤ (Lst x).length
  · rw [Nat.min_eq_left h]
  · rw [Nat.min_eq_right (by omega), List.take_of_length_le (Nat.le_refl _), List.take_of_length_le (by omega)]
theorem slice_mid (x : Str) (i j : Nat) : Lst (Txt.slice x (some (i : Int)) (some (j : Int))) = ((Lst x).drop i).take (j - i) := by
  rw [slice_clip]
  have h1 : clip (Lst x).length 0 (some (i : Int)) = min i (Lst x).length := by
    show (max 0 (min (if (i : Int) < 0 then (i : Int) + ((Lst x).length : Int) else i) ((Lst x).length : Int))).toNat = _
    rw [if_neg (by omega)]; omega
  have h2 : clip (Lst x).length (Lst x).length (some (j : Int)) = min j (Lst x).length := by
    show (max 0 (min (if (j : Int) < 0 then (j : Int) + ((Lst x).length : Int) else j) ((Lst x).length : Int))).toNat = _
    rw [if_neg (by omega)]; omega
  rw [h1, h2]
  by_cases h : i ≤ (Lst x).length
  · rw [Nat.min_eq_left h]
    by_cases hj : j ≤ (Lst x).length
    · rw [Nat.min_eq_left hj]
    · rw [Nat.min_eq_right (by omega), List.take_of_length_le (by rw [List.length_drop]; omega), List.take_of_length_le (by rw [List.length_drop]; omega)]
  · have e1 : min i (Lst x).length = (Lst x).length := by omega
    rw [e1, List.drop_of_length_le (Nat.le_refl _), List.drop_of_length_le (by omega), List.take_nil, List.take_nil]
/-- is a sign in a text -/
theorem in_one (x : Str) (c : Nat) : (!(Builtin.Str.occurrences x (Tx [c]) 0 x.length 1).isEmpty) = (Lst x).contains c := by
  show (!(Builtin.Str.occurrences x ⟨#[c]⟩ 0 x.length 1).isEmpty) = _
  rw [StrLaws.found_one]
  show decide (c ∈ Lst x) = _
  cases h : (Lst x).contains c with
  | true => exact decide_eq_true (List.contains_iff_mem.mp h)
  | false => exact decide_eq_false fun e => by rw [List.contains_iff_mem.mpr e] at h; cases h
theorem lst_join : ∀ (sep : Str) (ys : List Str), Lst (Str.join sep ys) = (List.intersperse (Lst sep) (ys.map Lst)).flatten
  | _, [] => rfl
  | _, [x] => by show Lst x = _; simp
  | sep, x :: y :: r => by
    show Lst (x ++ sep ++ Str.join sep (y :: r)) = _
    rw [lst_app, lst_app, lst_join sep (y :: r)]
    simp
theorem lst_join0 (ys : List Str) : Lst (Str.join (Str.ofString "") ys) = (ys.map Lst).flatten := by
  have h : ∀ ls : List (List Nat), (List.intersperse (Lst (Str.ofString "")) ls).flatten = ls.flatten := by
    have e : Lst (Str.ofString "") = [] := by decide +kernel
    rw [e]
    intro ls
    induction ls with
    | nil => rfl
    | cons a r ih =>
      cases r with
      | nil => rfl
      | cons b r => simp only [List.intersperse_cons_cons, List.flatten_cons, List.nil_append, ih]
  rw [lst_join, h]
theorem join_eq (sep : Str) (ys : List Str) : Txt.join sep ys = Str.join sep ys := StrLaws.glued_eq_join sep ys
theorem joinT (sep : Str) (ls : List (List Nat)) : Txt.join sep (ls.map Tx) = Tx ((List.intersperse (Lst sep) ls).flatten) := by
  have e : (ls.map Tx).map Lst = ls := by rw [List.map_map]; exact (List.map_congr_left fun l _ => lst_Tx l).trans (List.map_id _)
  rw [join_eq]; exact eq_T (by rw [lst_join, e])
theorem joinT0 (ls : List (List Nat)) : Txt.join (Str.ofString "") (ls.map Tx) = Tx ls.flatten := by
  have e : (ls.map Tx).map Lst = ls := by rw [List.map_map]; exact (List.map_congr_left fun l _ => lst_Tx l).trans (List.map_id _)
  rw [join_eq]; exact eq_T (by rw [lst_join0, e])
theorem strs_snocT {us : List Value} {ls : List (List Nat)} {l : List Nat} {x : Str} {t : Tok} (h : StrsAre us (ls.map Tx)) (e : x = Tx l) : StrsAre (us ++ [.str x t]) ((ls ++ [l]).map Tx) := by
  rw [List.map_append]; subst e; exact h.append' (.cons _ _ .nil)
end
-- KbBase
section
set_option maxRecDepth 100000
set_option maxHeartbeats 8000000
noncomputable abbrev LS : List Str := looseW hd.view_39
        [Str.ofString "ALT", Str.ofString "SUPER", Str.ofString "HYPER", Str.ofString "SHIFT", Str.ofString "CONTROL",
          Str.ofString "META", Str.ofString "CODES", Str.ofString "BITS", Str.ofString "single_key_description",
          Str.ofString "key_description"]
abbrev Led := List (Addr × Obj)
/-- a call of a def of the text's that gives back a value and keeps the ledger -/
def TellV (w : World) (f : Addr) (vs : List Value) (news : Led) (d u : Nat) (R : Tok → Value) : Prop :=
  ∀ (mean : ExcName → Option Value) (mg mb : Str → Option Value) (dp un : Nat) (gd : Option (List Code)) (cn : Str) (cs : Scope) (a : Addr) (ccd : Value) (cl : List (Str × Addr)) (outer : List Env) (A₀ : Around) (base h₀ : Heap) (L : Addr) (m : Str → Option Value) (s : Shared) (Q E : Value → Shared → Prop),
    Below A₀ base outer h₀ → Fr h₀ L s.heap m → (hd.heap_39 w.params).In h₀ → News h₀ L s.heap news → Top hd.view_39 LS mean mg mb h₀ → cs.kind = .function → dp + d < recursionLimit → un + u < cLine →
    (∀ t h' tk', Fr h₀ L h' m → News h₀ L h' news → Q (R t) { s with heap := h', toks := tk' }) →
    wpAny (model PySem.Challenge.pw_np0049_01 w) (ktrTop dp un gd cn cs L a ccd cl outer) (call (.ref f) vs) Q E s
theorem TellV.use {w : World} {f : Addr} {vs : List Value} {news : Led} {d u : Nat} {R : Tok → Value} (C : TellV w f vs news d u R)
  {mean : ExcName → Option Value} {mg mb : Str → Option Value} {dp un : Nat} {gd : Option (List Code)} {cn : Str} {cs : Scope} {a : Addr} {ccd : Value} {cl : List (Str × Addr)} {outer : List Env} {A₀ : Around} {base h₀ : Heap} {L : Addr} {m : Str → Option Value} {s : Shared} {Q E : Value → Shared → Prop}
  (B : Below A₀ base outer h₀) (F : Fr h₀ L s.heap m) (X : (hd.heap_39 w.params).In h₀) (N : News h₀ L s.heap news) (T : Top hd.view_39 LS mean mg mb h₀) (hk : cs.kind = .function) (hd : dp + d < recursionLimit) (hu : un + u < cLine)
  (ret : ∀ t h' tk', Fr h₀ L h' m → News h₀ L h' news → Q (R t) { s with heap := h', toks := tk' }) :
    wpAny (model PySem.Challenge.pw_np0049_01 w) (ktrTop dp un gd cn cs L a ccd cl outer) (call (.ref f) vs) Q E s :=
  C mean mg mb dp un gd cn cs a ccd cl outer A₀ base h₀ L m s Q E B F X N T hk hd hu ret
theorem tup_K {K : Frag} {h : Heap} {a : Addr} {d : Option Addr} {items : Array Value} {n : Nat} {sl : Array (Option Value)} (X : K.In h) (e : K.lookup a = some ⟨.type "tuple", d, .seq items n, sl⟩) : IsTup h a items := ⟨_, X a _ e, rfl, n, rfl⟩
theorem room1 {dp c a b L : Nat} (h : dp + b < L) (e : Nat.ble (c + a) b = true) : dp + c + a < L := by
  have := Nat.le_of_ble_eq_true e; omega
theorem room0 {dp b L : Nat} (h : dp + b < L) : dp < L := Nat.lt_of_le_of_lt (Nat.le_add_right dp b) h
/-- a def is entered: the frame's names by a short list, the tokens by a name -/
theorem code_defN {prog : Program} {w : World} {A A₀ : Around} {s : Shared} {K : Frag} {L : Addr} {h₀ base : Heap} {m mg mb : Str → Option Value} {news : List (Addr × Obj)} {p : Program} {loose : List Str} {mean : ExcName → Option Value}
    {env : Env} {outer : List Env} {R : Result → Shared → Prop} {name qual : Str} {params : Arguments} {body : List Stmt} {scope : Scope} {dV kV doc pm cdv ct oc : Value} {an od : Option Addr} {osl : Array (Option Value)} {f : Addr} {args : Args} {binds l : List (Str × Value)}
    (B : Below A₀ base outer h₀) (F : Fr h₀ L s.heap m) (X₀ : K.In h₀) (N : News h₀ L s.heap news) (T : Top p loose mean mg mb h₀) (hA : A.frames = some (env :: outer)) (hf : env.frame = some L) (hke : env.scope.kind = .function)
    (ho : K.lookup f = some ⟨oc, od, .func (fnOf name qual params body scope dV kV doc pm an cdv ct), osl⟩) (hcd : codeIn K cdv qual = true) (hroom : A.depth < recursionLimit)
    (hbind : BindsTo s (fnOf name qual params body scope dV kV doc pm an cdv ct) args binds) (hloc : ∀ y ∈ binds, scope.names.lookup y.1 = some .local) (hl : binds.reverse = l)
    (h : ∀ g L' h₁ tk, Fr h₀ L g m → Fr g L' h₁ (fun y => l.lookup y) → News g L' h₁ news → Below A base (env :: outer) g → K.In g → Top p loose mean mg mb g →
      wpAny (model prog w) (A.deeper (envOf qual scope L' f cdv)) (execs body (envOf qual scope L' f cdv))
        (fun fl s' => LeaveK h₀ L m g R (match fl with | .ret v => v | _ => .none) s')
        (fun e s' => wpAny (model prog w) (A.deeper (envOf qual scope L' f cdv)) (leaving (envOf qual scope L' f cdv) e) (fun _ s'' => R (.error e) s'') (fun e' s'' => R (.error e') s'') s')
        { s with heap := h₁, toks := tk })
    (hco : scope.isCoroutine = false) (hgen : scope.isGenerator = false) (hk : scope.kind = .function)
    (hcell : ∀ x ∈ scope.names, x.2 ≠ .cell) : codeAny (model prog w) A (.call (.ref f) args) R s :=
  code_def B F X₀ N T hA hf hke ho hcd hroom hbind hloc (fun g L' h₁ a b c d e f => h g L' h₁ _ a (by rw [← hl]; exact b) c d e f) hco hgen hk hcell
theorem exs_cons {prog : Program} {w : World} {A : Around} {E : Value → Shared → Prop} {env : Env} {st : Stmt} {rest : List Stmt} {Q : Flow → Shared → Prop} {hp : Heap} {g : Array GenState} {d : Drawn} {t : Nat} {os : OsState}
    (h : ∀ tk, wpAny (model prog w) A (exec st env) (fun f s' => match f with | .next => wpAny (model prog w) A (execs rest env) Q E s' | f => Q f s') E ⟨hp, g, d, tk, os⟩) : wpAny (model prog w) A (execs (st :: rest) env) Q E ⟨hp, g, d, t, os⟩ := wpAny_execs_cons (h t)
end
-- KbA
section
theorem tell_has_control_code {w : World} {c : Int} {t : Tok} {news : Led} :
   TellV w 92 [.int c t] news 1 8 (fun _ => .bool (decide (64 ≤ c ∧ c ≤ 95 ∨ 97 ≤ c ∧ c ≤ 122))) := by
  k_with_none
  k_with "execs cons" => (k_here; with_reducible refine exs_cons fun _ => ?_; k_fold)
  have hfill : (PySem.Challenge.rw_np0049_01, hd.heap_39) = (PySem.Challenge.rw_np0049_01, hd.heap_39) := by k_fill; rfl
  clear hfill
  intro mean mg mb dp un gd cn cs a ccd cl outer A₀ base h₀ L m s Q E B F X N T hk hd hu hret
  refine wpAny_call ?_
  k_dflt (refine' code_defN ?k1 ?k2 ?k3 ?k4 ?k5 ?kA ?kF ?kK ?k6 ?k7 ?k8 ?k9 ?kB ?hl ?_ ?c2 ?c3 ?c4 ?c5; (case kA => exact rfl); (case kF => exact rfl); (case kK => assumption); (case k1 => k_asm); (case k2 => k_asm); (case k3 => k_asm); (case k4 => k_asm); (case k5 => k_asm); (case k6 => k_is); (case k7 => k_is); (case k8 => first | exact room0 hd | ktr_room); (case k9 => exact BindsTo.of_eq rfl); (case c5 => decide); (case kB => exact locs rfl); (case hl => first | exact (rfl : _ = [(_, _)]) | exact (rfl : _ = [(_, _), (_, _)]) | exact (rfl : _ = [(_, _), (_, _), (_, _)]) | exact rfl); (case c2 => exact rfl); (case c3 => exact rfl); (case c4 => exact rfl); k_whole; intro g' L' h' tkE FG' F' N' B' X' T'; (try dsimp only); (try k_lift B'); (try k_fold))
  (change let ev : Env := _; wpAny _ (Around.deeper _ ev) (execs _ ev) _ _ _)
  intro ev
  (change let Ax : Around := _; wpAny _ Ax (execs _ ev) _ _ _)
  intro Ax
  k_steps
  all_goals cb_end hret
theorem tell_is_great {w : World} {c : Int} {t : Tok} {news : Led} :
   TellV w 99 [.int c t] news 1 8 (fun _ => .bool (decide (65 ≤ c ∧ c ≤ 90))) := by
  k_with_none
  k_with "execs cons" => (k_here; with_reducible refine exs_cons fun _ => ?_; k_fold)
  have hfill : (PySem.Challenge.rw_np0049_01, hd.heap_39) = (PySem.Challenge.rw_np0049_01, hd.heap_39) := by k_fill; rfl
  clear hfill
  intro mean mg mb dp un gd cn cs a ccd cl outer A₀ base h₀ L m s Q E B F X N T hk hd hu hret
  refine wpAny_call ?_
  k_dflt (refine' code_defN ?k1 ?k2 ?k3 ?k4 ?k5 ?kA ?kF ?kK ?k6 ?k7 ?k8 ?k9 ?kB ?hl ?_ ?c2 ?c3 ?c4 ?c5; (case kA => exact rfl); (case kF => exact rfl); (case kK => assumption); (case k1 => k_asm); (case k2 => k_asm); (case k3 => k_asm); (case k4 => k_asm); (case k5 => k_asm); (case k6 => k_is); (case k7 => k_is); (case k8 => first | exact room0 hd | ktr_room); (case k9 => exact BindsTo.of_eq rfl); (case c5 => decide); (case kB => exact locs rfl); (case hl => first | exact (rfl : _ = [(_, _)]) | exact (rfl : _ = [(_, _), (_, _)]) | exact (rfl : _ = [(_, _), (_, _), (_, _)]) | exact rfl); (case c2 => exact rfl); (case c3 => exact rfl); (case c4 => exact rfl); k_whole; intro g' L' h' tkE FG' F' N' B' X' T'; (try dsimp only); (try k_lift B'); (try k_fold))
  (change let ev : Env := _; wpAny _ (Around.deeper _ ev) (execs _ ev) _ _ _)
  intro ev
  (change let Ax : Around := _; wpAny _ Ax (execs _ ev) _ _ _)
  intro Ax
  k_steps
  all_goals cb_end hret
theorem tell_code_of {w : World} {c : Int} {t : Tok} {news : Led} :
   TellV w 61 [.int c t] news 1 8 (fun t => .int (Int.fmod c 4194304) t) := by
  k_with_none
  k_with "execs cons" => (k_here; with_reducible refine exs_cons fun _ => ?_; k_fold)
  have hfill : (PySem.Challenge.rw_np0049_01, hd.heap_39) = (PySem.Challenge.rw_np0049_01, hd.heap_39) := by k_fill; rfl
  clear hfill
  intro mean mg mb dp un gd cn cs a ccd cl outer A₀ base h₀ L m s Q E B F X N T hk hd hu hret
  refine wpAny_call ?_
  k_dflt (refine' code_defN ?k1 ?k2 ?k3 ?k4 ?k5 ?kA ?kF ?kK ?k6 ?k7 ?k8 ?k9 ?kB ?hl ?_ ?c2 ?c3 ?c4 ?c5; (case kA => exact rfl); (case kF => exact rfl); (case kK => assumption); (case k1 => k_asm); (case k2 => k_asm); (case k3 => k_asm); (case k4 => k_asm); (case k5 => k_asm); (case k6 => k_is); (case k7 => k_is); (case k8 => first | exact room0 hd | ktr_room); (case k9 => exact BindsTo.of_eq rfl); (case c5 => decide); (case kB => exact locs rfl); (case hl => first | exact (rfl : _ = [(_, _)]) | exact (rfl : _ = [(_, _), (_, _)]) | exact (rfl : _ = [(_, _), (_, _), (_, _)]) | exact rfl); (case c2 => exact rfl); (case c3 => exact rfl); (case c4 => exact rfl); k_whole; intro g' L' h' tkE FG' F' N' B' X' T'; (try dsimp only); (try k_lift B'); (try k_fold))
  (change let ev : Env := _; wpAny _ (Around.deeper _ ev) (execs _ ev) _ _ _)
  intro ev
  (change let Ax : Around := _; wpAny _ Ax (execs _ ev) _ _ _)
  intro Ax
  k_steps
  all_goals cb_end hret
theorem tell_bits_of {w : World} {c : Int} {t : Tok} {news : Led} :
   TellV w 68 [.int c t] news 1 8 (fun t => .int (c - Int.fmod c 4194304) t) := by
  k_with_none
  k_with "execs cons" => (k_here; with_reducible refine exs_cons fun _ => ?_; k_fold)
  have hfill : (PySem.Challenge.rw_np0049_01, hd.heap_39) = (PySem.Challenge.rw_np0049_01, hd.heap_39) := by k_fill; rfl
  clear hfill
  intro mean mg mb dp un gd cn cs a ccd cl outer A₀ base h₀ L m s Q E B F X N T hk hd hu hret
  refine wpAny_call ?_
  k_dflt (refine' code_defN ?k1 ?k2 ?k3 ?k4 ?k5 ?kA ?kF ?kK ?k6 ?k7 ?k8 ?k9 ?kB ?hl ?_ ?c2 ?c3 ?c4 ?c5; (case kA => exact rfl); (case kF => exact rfl); (case kK => assumption); (case k1 => k_asm); (case k2 => k_asm); (case k3 => k_asm); (case k4 => k_asm); (case k5 => k_asm); (case k6 => k_is); (case k7 => k_is); (case k8 => first | exact room0 hd | ktr_room); (case k9 => exact BindsTo.of_eq rfl); (case c5 => decide); (case kB => exact locs rfl); (case hl => first | exact (rfl : _ = [(_, _)]) | exact (rfl : _ = [(_, _), (_, _)]) | exact (rfl : _ = [(_, _), (_, _), (_, _)]) | exact rfl); (case c2 => exact rfl); (case c3 => exact rfl); (case c4 => exact rfl); k_whole; intro g' L' h' tkE FG' F' N' B' X' T'; (try dsimp only); (try k_lift B'); (try k_fold))
  (change let ev : Env := _; wpAny _ (Around.deeper _ ev) (execs _ ev) _ _ _)
  intro ev
  (change let Ax : Around := _; wpAny _ Ax (execs _ ev) _ _ _)
  intro Ax
  k_steps
  all_goals cb_end hret
theorem tell_is_sign_int {w : World} {c : Int} {t : Tok} {news : Led} :
   TellV w 42 [.int c t] news 1 8 (fun _ => .bool true) := by
  k_with_none
  k_with "execs cons" => (k_here; with_reducible refine exs_cons fun _ => ?_; k_fold)
  have hfill : (PySem.Challenge.rw_np0049_01, hd.heap_39) = (PySem.Challenge.rw_np0049_01, hd.heap_39) := by k_fill; rfl
  clear hfill
  intro mean mg mb dp un gd cn cs a ccd cl outer A₀ base h₀ L m s Q E B F X N T hk hd hu hret
  refine wpAny_call ?_
  k_dflt (refine' code_defN ?k1 ?k2 ?k3 ?k4 ?k5 ?kA ?kF ?kK ?k6 ?k7 ?k8 ?k9 ?kB ?hl ?_ ?c2 ?c3 ?c4 ?c5; (case kA => exact rfl); (case kF => exact rfl); (case kK => assumption); (case k1 => k_asm); (case k2 => k_asm); (case k3 => k_asm); (case k4 => k_asm); (case k5 => k_asm); (case k6 => k_is); (case k7 => k_is); (case k8 => first | exact room0 hd | ktr_room); (case k9 => exact BindsTo.of_eq rfl); (case c5 => decide); (case kB => exact locs rfl); (case hl => first | exact (rfl : _ = [(_, _)]) | exact (rfl : _ = [(_, _), (_, _)]) | exact (rfl : _ = [(_, _), (_, _), (_, _)]) | exact rfl); (case c2 => exact rfl); (case c3 => exact rfl); (case c4 => exact rfl); k_whole; intro g' L' h' tkE FG' F' N' B' X' T'; (try dsimp only); (try k_lift B'); (try k_fold))
  (change let ev : Env := _; wpAny _ (Around.deeper _ ev) (execs _ ev) _ _ _)
  intro ev
  (change let Ax : Around := _; wpAny _ Ax (execs _ ev) _ _ _)
  intro Ax
  k_steps
  all_goals cb_end hret
theorem tell_is_sign_str {w : World} {c : Str} {t : Tok} {news : Led} :
   TellV w 42 [.str c t] news 1 8 (fun _ => .bool false) := by
  k_with_none
  k_with "execs cons" => (k_here; with_reducible refine exs_cons fun _ => ?_; k_fold)
  have hfill : (PySem.Challenge.rw_np0049_01, hd.heap_39) = (PySem.Challenge.rw_np0049_01, hd.heap_39) := by k_fill; rfl
  clear hfill
  intro mean mg mb dp un gd cn cs a ccd cl outer A₀ base h₀ L m s Q E B F X N T hk hd hu hret
  refine wpAny_call ?_
  k_dflt (refine' code_defN ?k1 ?k2 ?k3 ?k4 ?k5 ?kA ?kF ?kK ?k6 ?k7 ?k8 ?k9 ?kB ?hl ?_ ?c2 ?c3 ?c4 ?c5; (case kA => exact rfl); (case kF => exact rfl); (case kK => assumption); (case k1 => k_asm); (case k2 => k_asm); (case k3 => k_asm); (case k4 => k_asm); (case k5 => k_asm); (case k6 => k_is); (case k7 => k_is); (case k8 => first | exact room0 hd | ktr_room); (case k9 => exact BindsTo.of_eq rfl); (case c5 => decide); (case kB => exact locs rfl); (case hl => first | exact (rfl : _ = [(_, _)]) | exact (rfl : _ = [(_, _), (_, _)]) | exact (rfl : _ = [(_, _), (_, _), (_, _)]) | exact rfl); (case c2 => exact rfl); (case c3 => exact rfl); (case c4 => exact rfl); k_whole; intro g' L' h' tkE FG' F' N' B' X' T'; (try dsimp only); (try k_lift B'); (try k_fold))
  (change let ev : Env := _; wpAny _ (Around.deeper _ ev) (execs _ ev) _ _ _)
  intro ev
  (change let Ax : Around := _; wpAny _ Ax (execs _ ev) _ _ _)
  intro Ax
  k_steps
  all_goals cb_end hret
theorem tell_is_control_code {w : World} {c : Int} {t : Tok} {news : Led} :
   TellV w 127 [.int c t] news 1 8 (fun _ => .bool (decide (c < 32))) := by
  k_with_none
  k_with "execs cons" => (k_here; with_reducible refine exs_cons fun _ => ?_; k_fold)
  have hfill : (PySem.Challenge.rw_np0049_01, hd.heap_39) = (PySem.Challenge.rw_np0049_01, hd.heap_39) := by k_fill; rfl
  clear hfill
  intro mean mg mb dp un gd cn cs a ccd cl outer A₀ base h₀ L m s Q E B F X N T hk hd hu hret
  refine wpAny_call ?_
  k_dflt (refine' code_defN ?k1 ?k2 ?k3 ?k4 ?k5 ?kA ?kF ?kK ?k6 ?k7 ?k8 ?k9 ?kB ?hl ?_ ?c2 ?c3 ?c4 ?c5; (case kA => exact rfl); (case kF => exact rfl); (case kK => assumption); (case k1 => k_asm); (case k2 => k_asm); (case k3 => k_asm); (case k4 => k_asm); (case k5 => k_asm); (case k6 => k_is); (case k7 => k_is); (case k8 => first | exact room0 hd | ktr_room); (case k9 => exact BindsTo.of_eq rfl); (case c5 => decide); (case kB => exact locs rfl); (case hl => first | exact (rfl : _ = [(_, _)]) | exact (rfl : _ = [(_, _), (_, _)]) | exact (rfl : _ = [(_, _), (_, _), (_, _)]) | exact rfl); (case c2 => exact rfl); (case c3 => exact rfl); (case c4 => exact rfl); k_whole; intro g' L' h' tkE FG' F' N' B' X' T'; (try dsimp only); (try k_lift B'); (try k_fold))
  (change let ev : Env := _; wpAny _ (Around.deeper _ ev) (execs _ ev) _ _ _)
  intro ev
  (change let Ax : Around := _; wpAny _ Ax (execs _ ev) _ _ _)
  intro Ax
  k_steps
  all_goals cb_end hret
end
-- KbB
section
noncomputable def modL : List Nat := [65, 67, 72, 77, 83, 115]
noncomputable def ordL (ls : List Nat) : List Nat := modL.filter fun c => ls.contains c
theorem mod_lst : (Str.ofString "ACHMSs").cps = modL.toArray := by decide +kernel
theorem mod_at {i c : Nat} (h : (Str.ofString "ACHMSs").cps[i]? = some c) : modL[i]? = some c := by
  rw [mod_lst] at h; simpa using h
theorem ord_step {x : Str} {i c : Nat} {ys : List Value} {t : Tok} (h : (Str.ofString "ACHMSs").cps[i]? = some c) (hJ : StrsAre ys ((((modL.take i).filter fun c => (Lst x).contains c).map fun c => [c]).map Tx)) (b : Bool)
    (e : (Builtin.Str.occurrences x { cps := #[c] } 0 x.length 1).isEmpty = b) : StrsAre (if b then ys else ys ++ [.str ⟨#[c]⟩ t]) ((((modL.take (i + 1)).filter fun c => (Lst x).contains c).map fun c => [c]).map Tx) := by
  have e' := in_one x c
  rw [show Tx [c] = ⟨#[c]⟩ from rfl, e] at e'
  rw [List.take_add_one, mod_at h]
  cases b with
  | true =>
    simp only [Bool.not_true] at e'
    simp only [Option.toList, List.filter_append, List.filter_cons, ← e', List.filter_nil, List.append_nil, Bool.false_eq_true, if_false, if_true]
    exact hJ
  | false =>
    simp only [Bool.not_false] at e'
    simp only [Option.toList, List.filter_append, List.filter_cons, ← e', List.filter_nil, Bool.false_eq_true, if_false, if_true, List.map_append, List.map_cons, List.map_nil]
    exact hJ.append' (.cons _ _ .nil)
theorem ord_end (x : Str) : Txt.join (Str.ofString "") ((((modL.take (Str.ofString "ACHMSs").length).filter fun c => (Lst x).contains c).map fun c => [c]).map Tx) = Tx (ordL (Lst x)) := by
  have e : (Str.ofString "ACHMSs").length = 6 := by decide +kernel
  rw [e, joinT0]
  show Tx ((List.map (fun c => [c]) (ordL (Lst x))).flatten) = _
  rw [← List.flatMap_def, List.flatMap_singleton']
theorem sum_ones {α : Type} (l : List α) (f : α → Nat) (h : ∀ a ∈ l, f a = 1) : (l.map f).sum = l.length := by
  induction l with
  | nil => rfl
  | cons a r ih => rw [List.map_cons, List.sum_cons, h a (.head _), ih fun b hb => h b (.tail _ hb), List.length_cons]; omega
theorem ord_small (ls : List Nat) (n : Nat) : (((((modL.take n).filter fun c => ls.contains c).map fun c => [c]).map Tx).map (·.length)).sum + ((((modL.take n).filter fun c => ls.contains c).map fun c => [c]).map Tx).length * (Str.ofString "").length ≤ 16777216 := by
  have e : (Str.ofString "").length = 0 := by decide +kernel
  rw [e, Nat.mul_zero, Nat.add_zero, sum_ones _ _ (fun a ha => by
    obtain ⟨l, hl, rfl⟩ := List.mem_map.mp ha
    obtain ⟨c, _, rfl⟩ := List.mem_map.mp hl
    rfl)]
  simp only [List.length_map]
  refine Nat.le_trans (List.length_filter_le _ _) ?_
  refine Nat.le_trans (List.length_take_le' _ _) ?_
  exact Nat.le_trans (Nat.le_of_eq (rfl : modL.length = 6)) (by decide)
theorem tell_ordered {w : World} {x : Str} {t : Tok} {news : Led} :
   TellV w 54 [.str x t] news 9 80 (fun t => .str (Tx (ordL (Lst x))) t) := by
  k_with_none
  k_with "execs cons" => (k_here; with_reducible refine exs_cons fun _ => ?_; k_fold)
  k_with "eval ListComp" => (k_here; (with_reducible show wpAny _ _ (eval (.ListComp _ [⟨.Name _ _, _, [_], 0⟩] _ _) _) _ _ _); k_dflt (refine' comp_evalN1 ?F ?k1 ?k2 ?k3 ?k4 ?k5 ?_ (by intro _; rfl); (case F => k_asm); (case k1 => with_unfolding_all rfl); (case k2 => decide); (case k3 => rfl); (case k4 => decide); (case k5 => rfl)))
  have hfill : (PySem.Challenge.rw_np0049_01, hd.heap_39) = (PySem.Challenge.rw_np0049_01, hd.heap_39) := by k_fill; rfl
  clear hfill
  intro mean mg mb dp un gd cn cs a ccd cl outer A₀ base h₀ L m s Q E B F X N T hk hd hu hret
  refine wpAny_call ?_
  k_dflt (refine' code_defC ?k1 ?k2 ?k3 ?k4 ?k5 ?kA ?kF ?kK ?k6 ?k7 ?k8 ?k9 ?kB ?kD ?_ ?c2 ?c3 ?c4; (case kA => exact rfl); (case kF => exact rfl); (case kK => assumption); (case k1 => k_asm); (case k2 => k_asm); (case k3 => k_asm); (case k4 => k_asm); (case k5 => k_asm); (case k6 => k_is); (case k7 => k_is); (case k8 => first | exact room0 hd | ktr_room); (case k9 => exact BindsTo.of_eq rfl); (case kB => exact rfl); (case kD => decide +kernel); (case c2 => exact rfl); (case c3 => exact rfl); (case c4 => exact rfl); k_whole; intro g' L' h' tk' cells' FG' F' N' Y' B' X' T' l1; (try k_lt l1); k_cells Y'; (try simp only [List.cons_append, List.nil_append] at N'); (try dsimp only); (try k_lift B'); (try k_fold))
  k_steps
  refine comp_str (fun i ys => StrsAre ys ((((modL.take i).filter fun c => (Lst x).contains c).map fun c => [c]).map Tx)) (by rfl) (by k_asm) (by k_asm) (by decide +kernel) (by exact StrsAre.nil) ?_ ?_
  · intro i cc u ys own C oC D m₂ h tk E' hcc hJ hN hm F9 N9
    dsimp only [CTest]
    k_steps
    · exact TEnd.intro (by k_asm) (by k_asm) (fun _ h => h) (ord_step (t := 0) hcc hJ true (by assumption))
    · exact TEnd.intro (by k_asm) (by k_asm) (fun _ h => h) (ord_step hcc hJ false (by assumption))
  · intro D h tk ys hJ F9 N9 o9
    k_steps
    refine join_list (N9.isList (.head _)) hJ ?_ ?_
    exact ord_small _ _
    intro t9 k9
    k_steps
    exact cb_retS hret (ord_end x) (by k_asm) (cb_drop (by k_asm) (by kcj_all))
end
-- KbC
theorem zz_KbC {prog : Program} {w : World} {A : Around} {env : Env} {E : Value → Shared → Prop} {s : Shared} {Q : Flow → Shared → Prop} (h : Q .next s) : wpAny (model prog w) A (execs [] env) Q E s := by
  k_with_none
  walk1
  exact h
section
noncomputable def codeOf (e : Int) : Int := Int.fmod e 4194304
noncomputable def bitsOf (e : Int) : Int := e - Int.fmod e 4194304
noncomputable def hasCtl (c : Int) : Bool := decide (64 ≤ c ∧ c ≤ 95 ∨ 97 ≤ c ∧ c ≤ 122)
noncomputable def isGr (c : Int) : Bool := decide (65 ≤ c ∧ c ≤ 90)
noncomputable def withC (e : Int) : Int :=
  if hasCtl (codeOf e) = true then
    (if isGr (codeOf e) = true then Int.fmod (codeOf e) 32 + Builtin.bitAnd (Builtin.bitOr (bitsOf e) 33554432) (Builtin.bitXor (Builtin.bitOr (bitsOf e) 33554432) 67108864)
     else Int.fmod (codeOf e) 32 + Builtin.bitAnd (bitsOf e) (Builtin.bitXor (bitsOf e) 67108864))
  else if codeOf e < 32 then e else codeOf e + Builtin.bitOr (bitsOf e) 67108864
noncomputable def bitL (c : Nat) : Int :=
  if c = 65 then 4194304 else if c = 67 then 67108864 else if c = 72 then 16777216 else if c = 77 then 134217728 else if c = 83 then 33554432 else 8388608
noncomputable def withL (e : Int) (c : Nat) : Int := if c = 67 then withC e else codeOf e + Builtin.bitOr (bitsOf e) (bitL c)
noncomputable def hasMeta (e : Int) : Bool := Builtin.bitAnd e 134217728 != 0
theorem mem_modL {c : Nat} (h : c ∈ modL) : c = 65 ∨ c = 67 ∨ c = 72 ∨ c = 77 ∨ c = 83 ∨ c = 115 := by simpa [modL] using h
section
theorem kc_b5e549c2267 : True := by
  k_with_none
  k_with "call ref cons" => (k_here; first
    | ((with_reducible show wpAny _ _ (call (Value.ref 92) _) _ _ _); k_dflt (refine' TellV.use (tell_has_control_code ) ?k1 ?k2 ?k3 ?k4 ?k5 ?kK ?kd ?ku ?_; (case k1 => k_asm); (case k2 => k_asm); (case k3 => k_asm); (case k4 => k_asm); (case k5 => k_asm); (case kK => first | exact rfl | assumption); (case kd => first | exact room1 hd rfl | ktr_room); (case ku => first | exact room1 hu rfl | ktr_units); intro t9 h9 tk9 F9 N9; (try dsimp only); (try k_fold)))
    | ((with_reducible show wpAny _ _ (call (Value.ref 99) _) _ _ _); k_dflt (refine' TellV.use (tell_is_great ) ?k1 ?k2 ?k3 ?k4 ?k5 ?kK ?kd ?ku ?_; (case k1 => k_asm); (case k2 => k_asm); (case k3 => k_asm); (case k4 => k_asm); (case k5 => k_asm); (case kK => first | exact rfl | assumption); (case kd => first | exact room1 hd rfl | ktr_room); (case ku => first | exact room1 hu rfl | ktr_units); intro t9 h9 tk9 F9 N9; (try dsimp only); (try k_fold)))
    | ((with_reducible show wpAny _ _ (call (Value.ref 61) _) _ _ _); k_dflt (refine' TellV.use (tell_code_of ) ?k1 ?k2 ?k3 ?k4 ?k5 ?kK ?kd ?ku ?_; (case k1 => k_asm); (case k2 => k_asm); (case k3 => k_asm); (case k4 => k_asm); (case k5 => k_asm); (case kK => first | exact rfl | assumption); (case kd => first | exact room1 hd rfl | ktr_room); (case ku => first | exact room1 hu rfl | ktr_units); intro t9 h9 tk9 F9 N9; (try dsimp only); (try k_fold)))
    | ((with_reducible show wpAny _ _ (call (Value.ref 68) _) _ _ _); k_dflt (refine' TellV.use (tell_bits_of ) ?k1 ?k2 ?k3 ?k4 ?k5 ?kK ?kd ?ku ?_; (case k1 => k_asm); (case k2 => k_asm); (case k3 => k_asm); (case k4 => k_asm); (case k5 => k_asm); (case kK => first | exact rfl | assumption); (case kd => first | exact room1 hd rfl | ktr_room); (case ku => first | exact room1 hu rfl | ktr_units); intro t9 h9 tk9 F9 N9; (try dsimp only); (try k_fold)))
    | ((with_reducible show wpAny _ _ (call (Value.ref 42) _) _ _ _); k_dflt (refine' TellV.use (tell_is_sign_int ) ?k1 ?k2 ?k3 ?k4 ?k5 ?kK ?kd ?ku ?_; (case k1 => k_asm); (case k2 => k_asm); (case k3 => k_asm); (case k4 => k_asm); (case k5 => k_asm); (case kK => first | exact rfl | assumption); (case kd => first | exact room1 hd rfl | ktr_room); (case ku => first | exact room1 hu rfl | ktr_units); intro t9 h9 tk9 F9 N9; (try dsimp only); (try k_fold)))
    | ((with_reducible show wpAny _ _ (call (Value.ref 42) _) _ _ _); k_dflt (refine' TellV.use (tell_is_sign_str ) ?k1 ?k2 ?k3 ?k4 ?k5 ?kK ?kd ?ku ?_; (case k1 => k_asm); (case k2 => k_asm); (case k3 => k_asm); (case k4 => k_asm); (case k5 => k_asm); (case kK => first | exact rfl | assumption); (case kd => first | exact room1 hd rfl | ktr_room); (case ku => first | exact room1 hu rfl | ktr_units); intro t9 h9 tk9 F9 N9; (try dsimp only); (try k_fold))))
  trivial
theorem tell_with_control {w : World} {e : Int} {t : Tok} {news : Led} :
   TellV w 106 [.int e t] news 2 16 (fun t => .int (withC e) t) := by
  k_with "execs cons" => (k_here; with_reducible refine exs_cons fun _ => ?_; k_fold)
  have hfill : (PySem.Challenge.rw_np0049_01, hd.heap_39) = (PySem.Challenge.rw_np0049_01, hd.heap_39) := by k_fill; rfl
  clear hfill
  intro mean mg mb dp un gd cn cs a ccd cl outer A₀ base h₀ L m s Q E B F X N T hk hd hu hret
  refine wpAny_call ?_
  k_dflt (refine' code_defN ?k1 ?k2 ?k3 ?k4 ?k5 ?kA ?kF ?kK ?k6 ?k7 ?k8 ?k9 ?kB ?hl ?_ ?c2 ?c3 ?c4 ?c5; (case kA => exact rfl); (case kF => exact rfl); (case kK => assumption); (case k1 => k_asm); (case k2 => k_asm); (case k3 => k_asm); (case k4 => k_asm); (case k5 => k_asm); (case k6 => k_is); (case k7 => k_is); (case k8 => first | exact room0 hd | ktr_room); (case k9 => exact BindsTo.of_eq rfl); (case c5 => decide); (case kB => exact locs rfl); (case hl => first | exact (rfl : _ = [(_, _)]) | exact (rfl : _ = [(_, _), (_, _)]) | exact (rfl : _ = [(_, _), (_, _), (_, _)]) | exact rfl); (case c2 => exact rfl); (case c3 => exact rfl); (case c4 => exact rfl); k_whole; intro g' L' h' tkE FG' F' N' B' X' T'; (try dsimp only); (try k_lift B'); (try k_fold))
  (change let ev : Env := _; wpAny _ (Around.deeper _ ev) (execs _ ev) _ _ _)
  intro ev
  (change let Ax : Around := _; wpAny _ Ax (execs _ ev) _ _ _)
  intro Ax
  k_steps
  all_goals (refine cb_retI hret ?_ (by k_asm) (by k_asm); unfold withC hasCtl isGr codeOf bitsOf; simp only [decide_eq_true_eq]; (repeat' split) <;> first | rfl | (exfalso; omega))
theorem tell_has_meta_int {w : World} {e : Int} {t : Tok} {news : Led} :
   TellV w 134 [.int e t] news 2 16 (fun _ => .bool (hasMeta e)) := by
  k_with "execs cons" => (k_here; with_reducible refine exs_cons fun _ => ?_; k_fold)
  have hfill : (PySem.Challenge.rw_np0049_01, hd.heap_39) = (PySem.Challenge.rw_np0049_01, hd.heap_39) := by k_fill; rfl
  clear hfill
  intro mean mg mb dp un gd cn cs a ccd cl outer A₀ base h₀ L m s Q E B F X N T hk hd hu hret
  refine wpAny_call ?_
  k_dflt (refine' code_defN ?k1 ?k2 ?k3 ?k4 ?k5 ?kA ?kF ?kK ?k6 ?k7 ?k8 ?k9 ?kB ?hl ?_ ?c2 ?c3 ?c4 ?c5; (case kA => exact rfl); (case kF => exact rfl); (case kK => assumption); (case k1 => k_asm); (case k2 => k_asm); (case k3 => k_asm); (case k4 => k_asm); (case k5 => k_asm); (case k6 => k_is); (case k7 => k_is); (case k8 => first | exact room0 hd | ktr_room); (case k9 => exact BindsTo.of_eq rfl); (case c5 => decide); (case kB => exact locs rfl); (case hl => first | exact (rfl : _ = [(_, _)]) | exact (rfl : _ = [(_, _), (_, _)]) | exact (rfl : _ = [(_, _), (_, _), (_, _)]) | exact rfl); (case c2 => exact rfl); (case c3 => exact rfl); (case c4 => exact rfl); k_whole; intro g' L' h' tkE FG' F' N' B' X' T'; (try dsimp only); (try k_lift B'); (try k_fold))
  (change let ev : Env := _; wpAny _ (Around.deeper _ ev) (execs _ ev) _ _ _)
  intro ev
  (change let Ax : Around := _; wpAny _ Ax (execs _ ev) _ _ _)
  intro Ax
  k_steps
  all_goals exact cb_retB hret rfl (by k_asm) (by k_asm)
end
theorem occ_no {x : Str} {c : Nat} (h : c ∈ Lst x) (e : (Builtin.Str.occurrences x { cps := #[c] } 0 x.length 1).isEmpty = true) : False := by
  have q := in_one x c
  rw [show Tx [c] = ⟨#[c]⟩ from rfl, e, List.contains_iff_mem.mpr h] at q
  cases q
theorem mod_in {c : Nat} (h : c ∈ modL) : c ∈ Lst (Str.ofString "ACHMSs") := by
  have e : Lst (Str.ofString "ACHMSs") = modL := by decide +kernel
  rw [e]; exact h
theorem find_65 : Txt.find (Str.ofString "ACHMSs") { cps := #[65] } = 0 := by decide +kernel
theorem find_67 : Txt.find (Str.ofString "ACHMSs") { cps := #[67] } = 1 := by decide +kernel
theorem find_72 : Txt.find (Str.ofString "ACHMSs") { cps := #[72] } = 2 := by decide +kernel
theorem find_77 : Txt.find (Str.ofString "ACHMSs") { cps := #[77] } = 3 := by decide +kernel
theorem find_83 : Txt.find (Str.ofString "ACHMSs") { cps := #[83] } = 4 := by decide +kernel
theorem find_115 : Txt.find (Str.ofString "ACHMSs") { cps := #[115] } = 5 := by decide +kernel
theorem find_mod {c : Nat} (h : c ∈ modL) : Txt.find (Str.ofString "ACHMSs") { cps := #[c] } = ((modL.idxOf c : Nat) : Int) := by
  rcases mem_modL h with rfl | rfl | rfl | rfl | rfl | rfl
  · exact find_65
  · exact find_67
  · exact find_72
  · exact find_77
  · exact find_83
  · exact find_115
noncomputable def bitsV : List Value := [.int 4194304 224, .int 67108864 240, .int 16777216 232, .int 134217728 244, .int 33554432 236, .int 8388608 228]
theorem bitsV_at {c : Nat} (h : c ∈ modL) : ∃ t, bitsV[modL.idxOf c]? = some (.int (bitL c) t) := by
  rcases mem_modL h with rfl | rfl | rfl | rfl | rfl | rfl <;> exact ⟨_, rfl⟩
theorem idx_lt {c : Nat} (h : c ∈ modL) : modL.idxOf c < 6 := by
  rcases mem_modL h with rfl | rfl | rfl | rfl | rfl | rfl <;> decide
theorem item_bits {prog : Program} {w : World} {A : Around} {E : Value → Shared → Prop} {s : Shared} {value slice : Expr} {c : Nat} {u : Tok} {a : Addr} {Q : Value → Shared → Prop} (hc : c ∈ modL) (ht : IsTup s.heap a bitsV.toArray) (h : ∀ t, Q (.int (bitL c) t) s)
    (hs : subscripted slice false (.ref a) (.int (Txt.find (Str.ofString "ACHMSs") { cps := #[c] }) u) = operate [.ref a, .int (Txt.find (Str.ofString "ACHMSs") { cps := #[c] }) u] (getItem (.ref a) (.int (Txt.find (Str.ofString "ACHMSs") { cps := #[c] }) u)))
    (hg : ∀ r, letTemporaryGo value (.ref a) r = pure ()) :
    wpAny (model prog w) A (subscriptTail value slice (.ref a) (.int (Txt.find (Str.ofString "ACHMSs") { cps := #[c] }) u)) Q E s := by
  obtain ⟨t, ht'⟩ := bitsV_at hc
  have hl := idx_lt hc
  have e := find_mod hc
  refine item_tupleL ht (j := modL.idxOf c) (x := .int (bitL c) t) (by omega) (by omega) ?_ ht' (h t) hs hg
  rw [e]
  exact (StrLaws.seqIndex_nonneg (by omega) (by show ((modL.idxOf c : Nat) : Int) < ((6 : Nat) : Int); omega)).trans (by simp)
theorem tell_bit_of {w : World} {c : Nat} {t : Tok} {news : Led} (h : c ∈ modL) : TellV w 49 [.str ⟨#[c]⟩ t] news 1 8 (fun t => .int (bitL c) t) := by
  k_with "execs cons" => (k_here; with_reducible refine exs_cons fun _ => ?_; k_fold)
  k_with "subscriptTail Name Call ref int" => (k_here; k_dflt (refine' item_bits ?k0 (tup_K ?kX ?kL) ?_ ?k1 ?k2; (case k0 => assumption); (case kX => k_in); (case kL => k_is); (case k1 => with_unfolding_all rfl); (case k2 => intro _; with_unfolding_all rfl)); intro _)
  have hfill : (PySem.Challenge.rw_np0049_01, hd.heap_39) = (PySem.Challenge.rw_np0049_01, hd.heap_39) := by k_fill; rfl
  clear hfill
  intro mean mg mb dp un gd cn cs a ccd cl outer A₀ base h₀ L m s Q E B F X N T hk hd hu hret
  refine wpAny_call ?_
  k_dflt (refine' code_defN ?k1 ?k2 ?k3 ?k4 ?k5 ?kA ?kF ?kK ?k6 ?k7 ?k8 ?k9 ?kB ?hl ?_ ?c2 ?c3 ?c4 ?c5; (case kA => exact rfl); (case kF => exact rfl); (case kK => assumption); (case k1 => k_asm); (case k2 => k_asm); (case k3 => k_asm); (case k4 => k_asm); (case k5 => k_asm); (case k6 => k_is); (case k7 => k_is); (case k8 => first | exact room0 hd | ktr_room); (case k9 => exact BindsTo.of_eq rfl); (case c5 => decide); (case kB => exact locs rfl); (case hl => first | exact (rfl : _ = [(_, _)]) | exact (rfl : _ = [(_, _), (_, _)]) | exact (rfl : _ = [(_, _), (_, _), (_, _)]) | exact rfl); (case c2 => exact rfl); (case c3 => exact rfl); (case c4 => exact rfl); k_whole; intro g' L' h' tkE FG' F' N' B' X' T'; (try dsimp only); (try k_lift B'); (try k_fold))
  (change let ev : Env := _; wpAny _ (Around.deeper _ ev) (execs _ ev) _ _ _)
  intro ev
  (change let Ax : Around := _; wpAny _ Ax (execs _ ev) _ _ _)
  intro Ax
  k_steps
  · exact (occ_no (mod_in h) (by assumption)).elim
  · exact cb_retI hret rfl (by k_asm) (by k_asm)
section
theorem kc_b5e549c2272 : True := by
  k_with_none
  k_with "call ref cons" => (k_here; first
    | ((with_reducible show wpAny _ _ (call (Value.ref 61) _) _ _ _); k_dflt (refine' TellV.use (tell_code_of ) ?k1 ?k2 ?k3 ?k4 ?k5 ?kK ?kd ?ku ?_; (case k1 => k_asm); (case k2 => k_asm); (case k3 => k_asm); (case k4 => k_asm); (case k5 => k_asm); (case kK => first | exact rfl | assumption); (case kd => first | exact room1 hd rfl | ktr_room); (case ku => first | exact room1 hu rfl | ktr_units); intro t9 h9 tk9 F9 N9; (try dsimp only); (try k_fold)))
    | ((with_reducible show wpAny _ _ (call (Value.ref 68) _) _ _ _); k_dflt (refine' TellV.use (tell_bits_of ) ?k1 ?k2 ?k3 ?k4 ?k5 ?kK ?kd ?ku ?_; (case k1 => k_asm); (case k2 => k_asm); (case k3 => k_asm); (case k4 => k_asm); (case k5 => k_asm); (case kK => first | exact rfl | assumption); (case kd => first | exact room1 hd rfl | ktr_room); (case ku => first | exact room1 hu rfl | ktr_units); intro t9 h9 tk9 F9 N9; (try dsimp only); (try k_fold)))
    | ((with_reducible show wpAny _ _ (call (Value.ref 49) _) _ _ _); k_dflt (refine' TellV.use (tell_bit_of (by assumption)) ?k1 ?k2 ?k3 ?k4 ?k5 ?kK ?kd ?ku ?_; (case k1 => k_asm); (case k2 => k_asm); (case k3 => k_asm); (case k4 => k_asm); (case k5 => k_asm); (case kK => first | exact rfl | assumption); (case kd => first | exact room1 hd rfl | ktr_room); (case ku => first | exact room1 hu rfl | ktr_units); intro t9 h9 tk9 F9 N9; (try dsimp only); (try k_fold)))
    | ((with_reducible show wpAny _ _ (call (Value.ref 106) _) _ _ _); k_dflt (refine' TellV.use (tell_with_control ) ?k1 ?k2 ?k3 ?k4 ?k5 ?kK ?kd ?ku ?_; (case k1 => k_asm); (case k2 => k_asm); (case k3 => k_asm); (case k4 => k_asm); (case k5 => k_asm); (case kK => first | exact rfl | assumption); (case kd => first | exact room1 hd rfl | ktr_room); (case ku => first | exact room1 hu rfl | ktr_units); intro t9 h9 tk9 F9 N9; (try dsimp only); (try k_fold))))
  trivial
theorem tell_with_letter {w : World} {e : Int} {c : Nat} {t u : Tok} {news : Led} (h : c ∈ modL) :
   TellV w 113 [.int e t, .str ⟨#[c]⟩ u] news 4 32 (fun t => .int (withL e c) t) := by
  k_with "execs cons" => (k_here; with_reducible refine exs_cons fun _ => ?_; k_fold)
  k_with "subscriptTail Name Call ref int" => (k_here; k_dflt (refine' item_bits ?k0 (tup_K ?kX ?kL) ?_ ?k1 ?k2; (case k0 => assumption); (case kX => k_in); (case kL => k_is); (case k1 => with_unfolding_all rfl); (case k2 => intro _; with_unfolding_all rfl)); intro _)
  have hc : (({ cps := #[c] } : Str) == Str.ofString "C") = decide (c = 67) := by
    rw [beq_lst, show Lst (Str.ofString "C") = [67] from by decide +kernel]
    show ([c] == [67]) = _
    simp [Bool.beq_eq_decide_eq]
  have hfill : (PySem.Challenge.rw_np0049_01, hd.heap_39) = (PySem.Challenge.rw_np0049_01, hd.heap_39) := by k_fill; rfl
  clear hfill
  intro mean mg mb dp un gd cn cs a ccd cl outer A₀ base h₀ L m s Q E B F X N T hk hd hu hret
  refine wpAny_call ?_
  k_dflt (refine' code_defN ?k1 ?k2 ?k3 ?k4 ?k5 ?kA ?kF ?kK ?k6 ?k7 ?k8 ?k9 ?kB ?hl ?_ ?c2 ?c3 ?c4 ?c5; (case kA => exact rfl); (case kF => exact rfl); (case kK => assumption); (case k1 => k_asm); (case k2 => k_asm); (case k3 => k_asm); (case k4 => k_asm); (case k5 => k_asm); (case k6 => k_is); (case k7 => k_is); (case k8 => first | exact room0 hd | ktr_room); (case k9 => exact BindsTo.of_eq rfl); (case c5 => decide); (case kB => exact locs rfl); (case hl => first | exact (rfl : _ = [(_, _)]) | exact (rfl : _ = [(_, _), (_, _)]) | exact (rfl : _ = [(_, _), (_, _), (_, _)]) | exact rfl); (case c2 => exact rfl); (case c3 => exact rfl); (case c4 => exact rfl); k_whole; intro g' L' h' tkE FG' F' N' B' X' T'; (try dsimp only); (try k_lift B'); (try k_fold))
  (change let ev : Env := _; wpAny _ (Around.deeper _ ev) (execs _ ev) _ _ _)
  intro ev
  (change let Ax : Around := _; wpAny _ Ax (execs _ ev) _ _ _)
  intro Ax
  k_steps
  all_goals (refine cb_retI hret ?_ (by k_asm) (by k_asm); (have q := hc.symm.trans (by assumption)); simp only [decide_eq_true_eq, decide_eq_false_iff_not] at q; unfold withL codeOf bitsOf; first | rw [if_pos q] | rw [if_neg q])
end
end
-- KbSpec
section
/-- a key: an event that is a sign, or a name -/
abbrev Key := Int ⊕ List Nat
noncomputable def kv : Key → Tok → Value
  | .inl e, t => .int e t
  | .inr l, t => .str (Tx l) t
noncomputable def bitLs (e : Int) : List Nat := modL.filter fun c => Builtin.bitAnd e (bitL c) != 0
noncomputable def marksL (ls : List Nat) : List Nat := (ordL ls).flatMap fun c => [c, 45]
/-- letters ahead of a name -/
noncomputable def splitN : List Nat → List Nat × List Nat
  | a :: b :: c :: r => if b = 45 ∧ a ∈ modL then (a :: (splitN (c :: r)).1, (splitN (c :: r)).2) else ([], a :: b :: c :: r)
  | l => ([], l)
noncomputable def makeEvent (b : Key) (ls : List Nat) : Key := match b with
  | .inl e => .inl ((ordL ls).foldl withL e)
  | .inr n => .inr (marksL (ordL (splitN n).1 ++ ls) ++ (splitN n).2)
noncomputable def codeNamed (l : List Nat) : Option Int :=
  if l = [78, 85, 76] then some 0 else if l = [84, 65, 66] then some 9 else if l = [76, 70, 68] then some 10 else if l = [82, 69, 84] then some 13
  else if l = [69, 83, 67] then some 27 else if l = [83, 80, 67] then some 32 else if l = [68, 69, 76] then some 127 else none
noncomputable def controlLetter (c : Int) : List Nat := if 1 ≤ c ∧ c ≤ 26 then [(c + 96).toNat] else [(c + 64).toNat]
noncomputable def codeText (c : Int) : List Nat := if c = 32 then [83, 80, 67] else if c = 127 then [68, 69, 76] else [c.toNat]
noncomputable def controlText (c : Int) (m : Bool) : List Nat × List Nat :=
  if c = 9 ∧ m = true then ([67], [105]) else if c = 9 then ([], [84, 65, 66]) else if c = 13 then ([], [82, 69, 84]) else if c = 27 then ([], [69, 83, 67]) else ([67], controlLetter c)
noncomputable def signText (e : Int) : List Nat :=
  if codeOf e < 32 then marksL (bitLs e ++ (controlText (codeOf e) (Builtin.bitAnd e 134217728 != 0)).1) ++ (controlText (codeOf e) (Builtin.bitAnd e 134217728 != 0)).2
  else marksL (bitLs e) ++ codeText (codeOf e)
noncomputable def nameText (n : List Nat) : List Nat := marksL (ordL (splitN n).1) ++ ([60] ++ (splitN n).2 ++ [62])
noncomputable def keyText : Key → List Nat
  | .inl e => signText e
  | .inr n => nameText n
noncomputable def isCommand (w : List Nat) : Bool := decide (4 < w.length) && (w.take 2 == [60, 60]) && (w.drop (w.length - 2) == [62, 62])
noncomputable def isAngled (w : List Nat) : Bool := decide (2 < w.length) && (w.head? == some 60) && (w.getLast? == some 62)
noncomputable def plainKeys (w : List Nat) : List Key := w.map fun (c : Nat) => (Sum.inl (c : Int) : Key)
noncomputable def commandKeys (w : List Nat) : List Key := .inl 134217848 :: (plainKeys w ++ [.inl 13])
noncomputable def caretCode (c : Nat) : Int := if c = 63 then 127 else withC c
noncomputable def namedKey (ls n : List Nat) : Key := makeEvent (match codeNamed n with | none => .inr n | some c => .inl c) ls
noncomputable def restCode (rest : List Nat) : Option Int := match codeNamed rest with
  | some c => some c
  | none => match rest with
    | [94, c] => some (caretCode c)
    | [c] => some (c : Int)
    | _ => none
noncomputable def modifiedKey (ls rest : List Nat) : Option Key :=
  if isAngled rest = true then some (namedKey ls ((rest.drop 1).take (rest.length - 2)))
  else (restCode rest).map fun c => makeEvent (.inl c) ls
noncomputable def wordKeys (w : List Nat) : Option (List Key) :=
  if isCommand w = true then some (commandKeys ((w.drop 2).take (w.length - 4)))
  else if (splitN w).1 ≠ [] then (modifiedKey (splitN w).1 (splitN w).2).map fun k => [k]
  else if isAngled w = true ∨ (codeNamed w).isSome = true ∨ (w.length = 2 ∧ w.head? = some 94) then (modifiedKey [] w).map fun k => [k]
  else some (plainKeys w)
noncomputable def isDigit (c : Nat) : Bool := decide (48 ≤ c ∧ c ≤ 57)
noncomputable def digitsAt (w : List Nat) : Nat := (w.takeWhile isDigit).length
noncomputable def numOf (w : List Nat) : Nat := w.foldl (fun a c => a * 10 + (c - 48)) 0
noncomputable def timesOf (w : List Nat) : Option (Nat × List Nat) :=
  if digitsAt w = 0 ∨ w[digitsAt w]? ≠ some 42 ∨ w.length = digitsAt w + 1 then some (1, w)
  else if 9 < digitsAt w then none
  else some (numOf (w.take (digitsAt w)), w.drop (digitsAt w + 1))
noncomputable def isBlank (c : Nat) : Bool := c = 32 || c = 9 || c = 10 || c = 12 || c = 13
/-- the words of a line, the word under way ahead -/
noncomputable def blankGo : List Nat → List Nat → List (List Nat)
  | w, [] => if w = [] then [] else [w]
  | w, c :: r => if isBlank c = true then (if w = [] then blankGo [] r else w :: blankGo [] r) else blankGo (w ++ [c]) r
noncomputable def isRemark (w : List Nat) : Bool := w == [59, 59] || w == [82, 69, 77]
noncomputable def linesOf : List Nat → List Nat → List (List Nat)
  | l, [] => [l]
  | l, c :: r => if c = 10 then l :: linesOf [] r else linesOf (l ++ [c]) r
noncomputable def wordsOf (x : List Nat) : List (List Nat) := (linesOf [] x).flatMap fun l => (blankGo [] l).takeWhile fun w => !isRemark w
noncomputable def repeatKeys (n : Nat) (ks : List Key) : List Key := (List.replicate n ks).flatten
noncomputable def wordOut (w : List Nat) : Option (List Key) := match timesOf w with
  | none => none
  | some (n, r) => if 10000 < n then none else (wordKeys r).map fun ks => repeatKeys n ks
noncomputable def wordsOut : List (List Nat) → Option (List Key)
  | [] => some []
  | w :: r => match wordOut w with
    | none => none
    | some ks => (wordsOut r).map fun q => ks ++ q
noncomputable def kbdOut (x : List Nat) : Option (List Key) := wordsOut (wordsOf x)
/-- describe: the words, and whether an ESC stands open -/
noncomputable def descGo : Bool → List Key → List (List Nat)
  | o, [] => if o = true then [keyText (.inl 27)] else []
  | o, .inl e :: r =>
    if o = true ∧ hasMeta e = false then keyText (.inl (e + 134217728)) :: descGo false r
    else (if o = true then [keyText (.inl 27)] else []) ++ (if e = 27 then descGo true r else keyText (.inl e) :: descGo false r)
  | o, .inr n :: r => (if o = true then [keyText (.inl 27)] else []) ++ keyText (.inr n) :: descGo false r
noncomputable def joinWords (ws : List (List Nat)) : List Nat := (List.intersperse [32] ws).flatten
end
-- KbBase2
section
/-- a call that makes one object that is kept -/
def TellN (w : World) (f : Addr) (vs : List Value) (news : Led) (d u : Nat) (O : Obj → Prop) : Prop :=
  ∀ (mean : ExcName → Option Value) (mg mb : Str → Option Value) (dp un : Nat) (gd : Option (List Code)) (cn : Str) (cs : Scope) (a : Addr) (ccd : Value) (cl : List (Str × Addr)) (outer : List Env) (A₀ : Around) (base h₀ : Heap) (L : Addr) (m : Str → Option Value) (s : Shared) (Q E : Value → Shared → Prop),
    Below A₀ base outer h₀ → Fr h₀ L s.heap m → (hd.heap_39 w.params).In h₀ → News h₀ L s.heap news → Top hd.view_39 LS mean mg mb h₀ → cs.kind = .function → dp + d < recursionLimit → un + u < cLine →
    (∀ D o h' tk', Fr h₀ L h' m → News h₀ L h' ((D, o) :: news) → (∀ p ∈ news, p.1 ≠ D) → O o → Q (.ref D) { s with heap := h', toks := tk' }) →
    wpAny (model PySem.Challenge.pw_np0049_01 w) (ktrTop dp un gd cn cs L a ccd cl outer) (call (.ref f) vs) Q E s
theorem TellN.use {w : World} {f : Addr} {vs : List Value} {news : Led} {d u : Nat} {O : Obj → Prop} (C : TellN w f vs news d u O)
  {mean : ExcName → Option Value} {mg mb : Str → Option Value} {dp un : Nat} {gd : Option (List Code)} {cn : Str} {cs : Scope} {a : Addr} {ccd : Value} {cl : List (Str × Addr)} {outer : List Env} {A₀ : Around} {base h₀ : Heap} {L : Addr} {m : Str → Option Value} {s : Shared} {Q E : Value → Shared → Prop}
  (B : Below A₀ base outer h₀) (F : Fr h₀ L s.heap m) (X : (hd.heap_39 w.params).In h₀) (N : News h₀ L s.heap news) (T : Top hd.view_39 LS mean mg mb h₀) (hk : cs.kind = .function) (hd : dp + d < recursionLimit) (hu : un + u < cLine)
  (ret : ∀ D o h' tk', Fr h₀ L h' m → News h₀ L h' ((D, o) :: news) → (∀ p ∈ news, p.1 ≠ D) → O o → Q (.ref D) { s with heap := h', toks := tk' }) :
    wpAny (model PySem.Challenge.pw_np0049_01 w) (ktrTop dp un gd cn cs L a ccd cl outer) (call (.ref f) vs) Q E s :=
  C mean mg mb dp un gd cn cs a ccd cl outer A₀ base h₀ L m s Q E B F X N T hk hd hu ret
theorem TellN.use2 {α β : Type} {P : α → β → Prop} {o : α → β → Obj} {w : World} {f : Addr} {vs : List Value} {news : Led} {d u : Nat} (C : TellN w f vs news d u fun x => ∃ a b, P a b ∧ x = o a b)
  {mean : ExcName → Option Value} {mg mb : Str → Option Value} {dp un : Nat} {gd : Option (List Code)} {cn : Str} {cs : Scope} {a : Addr} {ccd : Value} {cl : List (Str × Addr)} {outer : List Env} {A₀ : Around} {base h₀ : Heap} {L : Addr} {m : Str → Option Value} {s : Shared} {Q E : Value → Shared → Prop}
  (B : Below A₀ base outer h₀) (F : Fr h₀ L s.heap m) (X : (hd.heap_39 w.params).In h₀) (N : News h₀ L s.heap news) (T : Top hd.view_39 LS mean mg mb h₀) (hk : cs.kind = .function) (hd : dp + d < recursionLimit) (hu : un + u < cLine)
  (ret : ∀ D x y h' tk', Fr h₀ L h' m → News h₀ L h' ((D, o x y) :: news) → (∀ p ∈ news, p.1 ≠ D) → P x y → Q (.ref D) { s with heap := h', toks := tk' }) :
    wpAny (model PySem.Challenge.pw_np0049_01 w) (ktrTop dp un gd cn cs L a ccd cl outer) (call (.ref f) vs) Q E s :=
  TellN.use C B F X N T hk hd hu (by rintro D _ h' tk' F' N' l ⟨x, y, p, rfl⟩; exact ret D x y h' tk' F' N' l p)
theorem TellN.use1 {α β : Type} {o : α → β → Obj} {w : World} {f : Addr} {vs : List Value} {news : Led} {d u : Nat} (C : TellN w f vs news d u fun x => ∃ a b, x = o a b)
  {mean : ExcName → Option Value} {mg mb : Str → Option Value} {dp un : Nat} {gd : Option (List Code)} {cn : Str} {cs : Scope} {a : Addr} {ccd : Value} {cl : List (Str × Addr)} {outer : List Env} {A₀ : Around} {base h₀ : Heap} {L : Addr} {m : Str → Option Value} {s : Shared} {Q E : Value → Shared → Prop}
  (B : Below A₀ base outer h₀) (F : Fr h₀ L s.heap m) (X : (hd.heap_39 w.params).In h₀) (N : News h₀ L s.heap news) (T : Top hd.view_39 LS mean mg mb h₀) (hk : cs.kind = .function) (hd : dp + d < recursionLimit) (hu : un + u < cLine)
  (ret : ∀ D x y h' tk', Fr h₀ L h' m → News h₀ L h' ((D, o x y) :: news) → (∀ p ∈ news, p.1 ≠ D) → Q (.ref D) { s with heap := h', toks := tk' }) :
    wpAny (model PySem.Challenge.pw_np0049_01 w) (ktrTop dp un gd cn cs L a ccd cl outer) (call (.ref f) vs) Q E s :=
  TellN.use C B F X N T hk hd hu (by rintro D _ h' tk' F' N' l ⟨x, y, rfl⟩; exact ret D x y h' tk' F' N' l)
theorem retN {h₀ h' : Heap} {L : Addr} {m : Str → Option Value} {news : Led} {s : Shared} {Q : Value → Shared → Prop} {O : Obj → Prop} {D : Addr} {o : Obj} {tk' : Nat}
    (hret : ∀ D o h' tk', Fr h₀ L h' m → News h₀ L h' ((D, o) :: news) → (∀ p ∈ news, p.1 ≠ D) → O o → Q (.ref D) { s with heap := h', toks := tk' })
    (F : Fr h₀ L h' m) (N : News h₀ L h' ((D, o) :: news)) (l : ∀ p ∈ news, p.1 ≠ D) (e : O o) : Q (.ref D) { s with heap := h', toks := tk' } := hret D o h' tk' F N l e
/-- a pair of texts -/
def PairO (a b : List Nat) (o : Obj) : Prop := ∃ t u, o = { cls := .type "tuple", data := .seq #[.str (Tx a) t, .str (Tx b) u] }
theorem pairO {a b : Str} {a' b' : List Nat} {t u : Tok} (e1 : Lst a = a') (e2 : Lst b = b') : PairO a' b' { cls := .type "tuple", data := .seq #[.str a t, .str b u] } := ⟨t, u, by rw [← e1, ← e2, T_lst, T_lst]⟩
theorem hd3 {x : Str} (h : (2 : Int) < (x.length : Int)) : ∃ a b c r, Lst x = a :: b :: c :: r := by
  have : 2 < (Lst x).length := by rw [← lst_len]; omega
  match hq : Lst x with
  | [] => rw [hq] at this; simp at this
  | [a] => rw [hq] at this; simp at this
  | [a, b] => rw [hq] at this; simp at this
  | a :: b :: c :: r => exact ⟨a, b, c, r, rfl⟩
theorem item_at {x : Str} {i c : Nat} (h : (Lst x)[i]? = some c) : Txt.item x (i : Int) = Tx [c] := lst_item (by omega) (by simpa using h)
theorem item_0 {x : Str} {c : Nat} {r : List Nat} (h : Lst x = c :: r) : Txt.item x 0 = Tx [c] := item_at (i := 0) (by rw [h]; rfl)
theorem item_1 {x : Str} {a c : Nat} {r : List Nat} (h : Lst x = a :: c :: r) : Txt.item x 1 = Tx [c] := item_at (i := 1) (by rw [h]; rfl)
theorem lit_eq {x : Str} {l : List Nat} {s : Str} {b : Bool} (e : (x == s) = b) (h : Lst s = l) : (Lst x == l) = b := by rw [← e, beq_lst, h]
theorem one_lit {c d : Nat} {s : Str} {b : Bool} (e : (Tx [c] == s) = b) (h : Lst s = [d]) : decide (c = d) = b := by
  rw [← e, beq_lst, h, lst_Tx]; simp [Bool.beq_eq_decide_eq]
theorem mods_lst : Lst (Str.ofString "ACHMSs") = modL := by decide +kernel
theorem in_mods {c : Nat} {b : Bool} (e : (Builtin.Str.occurrences (Str.ofString "ACHMSs") (Tx [c]) 0 (Str.ofString "ACHMSs").length 1).isEmpty = b) : modL.contains c = !b := by
  rw [← mods_lst, ← in_one, e]
theorem dash_lst : Lst (Str.ofString "-") = [45] := by decide +kernel
theorem nil_lst : Lst (Str.ofString "") = [] := by decide +kernel
/-- a turn of the split of a name -/
theorem split_turn {x l n : Str} (h1 : 2 * l.length + n.length = x.length) (h2 : splitN (Lst x) = (Lst l ++ (splitN (Lst n)).1, (splitN (Lst n)).2)) (h3 : (2 : Int) < (n.length : Int))
    (h4 : (Txt.item n 1 == Str.ofString "-") = true) (h5 : (Builtin.Str.occurrences (Str.ofString "ACHMSs") (Txt.item n 0) 0 (Str.ofString "ACHMSs").length 1).isEmpty = false) :
    2 * (l ++ Txt.item n 0).length + (Txt.slice n (some 2) none).length = x.length ∧
      splitN (Lst x) = (Lst (l ++ Txt.item n 0) ++ (splitN (Lst (Txt.slice n (some 2) none))).1, (splitN (Lst (Txt.slice n (some 2) none))).2) := by
  obtain ⟨a, b, c, r, e⟩ := hd3 h3
  rw [item_0 e] at h5 ⊢
  rw [item_1 e] at h4
  have hb := of_decide_eq_true (one_lit h4 dash_lst)
  have ha := in_mods h5
  have hs : Lst (Txt.slice n (some 2) none) = c :: r := by rw [show (2 : Int) = ((2 : Nat) : Int) from rfl, slice_from, e]; rfl
  subst hb
  refine ⟨?_, ?_⟩
  · rw [lst_len, lst_len, lst_app, hs, lst_Tx]
    rw [lst_len, lst_len, e] at h1
    simp only [List.length_append, List.length_cons, List.length_nil] at h1 ⊢
    omega
  · rw [h2, e, hs, lst_app, lst_Tx]
    have : a ∈ modL := List.contains_iff_mem.mp (by rw [ha]; rfl)
    rw [splitN, if_pos ⟨rfl, this⟩]
    simp
theorem split_stop {n : List Nat} (h : ∀ a b c r, n = a :: b :: c :: r → ¬ (b = 45 ∧ a ∈ modL)) : splitN n = ([], n) := by
  match n with
  | [] => rfl
  | [_] => rfl
  | [_, _] => rfl
  | a :: b :: c :: r => rw [splitN, if_neg (h a b c r rfl)]
theorem split_end1 {x l n : Str} (h2 : splitN (Lst x) = (Lst l ++ (splitN (Lst n)).1, (splitN (Lst n)).2)) (h3 : ¬ (2 : Int) < (n.length : Int)) : splitN (Lst x) = (Lst l, Lst n) := by
  rw [h2, split_stop]
  · simp
  · intro a b c r e
    rw [lst_len, e] at h3
    simp only [List.length_cons] at h3
    omega
theorem split_end2 {x l n : Str} (h2 : splitN (Lst x) = (Lst l ++ (splitN (Lst n)).1, (splitN (Lst n)).2)) (h4 : (Txt.item n 1 == Str.ofString "-") = false) : splitN (Lst x) = (Lst l, Lst n) := by
  rw [h2, split_stop]
  · simp
  · intro a b c r e
    rw [item_1 e] at h4
    exact fun q => of_decide_eq_false (one_lit h4 dash_lst) q.1
theorem split_end3 {x l n : Str} (h2 : splitN (Lst x) = (Lst l ++ (splitN (Lst n)).1, (splitN (Lst n)).2)) (h5 : (Builtin.Str.occurrences (Str.ofString "ACHMSs") (Txt.item n 0) 0 (Str.ofString "ACHMSs").length 1).isEmpty = true) : splitN (Lst x) = (Lst l, Lst n) := by
  rw [h2, split_stop]
  · simp
  · intro a b c r e
    rw [item_0 e] at h5
    intro q
    have := in_mods h5
    rw [List.contains_iff_mem.mpr q.2] at this
    cases this
theorem split_start (x : Str) : 2 * (Str.ofString "").length + x.length = x.length ∧ splitN (Lst x) = (Lst (Str.ofString "") ++ (splitN (Lst x)).1, (splitN (Lst x)).2) := by
  rw [lst_len (Str.ofString ""), nil_lst]; simp
theorem cut_less {n : Str} (h : (2 : Int) < (n.length : Int)) : (Txt.slice n (some 2) none).length < n.length := by
  rw [show (2 : Int) = ((2 : Nat) : Int) from rfl, lst_len, slice_from, lst_len, List.length_drop]
  rw [lst_len] at h
  omega
inductive KeysAre : List Value → List Key → Prop where
  | nil : KeysAre [] []
  | cons {v : Value} {k : Key} {vs : List Value} {ks : List Key} : (∃ t, v = kv k t) → KeysAre vs ks → KeysAre (v :: vs) (k :: ks)
/-- a list of keys -/
def KListO (ks : List Key) (o : Obj) : Prop := ∃ vs n, KeysAre vs ks ∧ o = listOf vs.toArray n
/-- a list of texts -/
def SListO (ws : List (List Nat)) (o : Obj) : Prop := ∃ vs n, StrsAre vs (ws.map Tx) ∧ o = listOf vs.toArray n
theorem KeysAre.append {a b : List Value} {ks ls : List Key} (h : KeysAre a ks) (h' : KeysAre b ls) : KeysAre (a ++ b) (ks ++ ls) := by
  induction h with
  | nil => exact h'
  | cons e _ ih => exact .cons e ih
theorem KeysAre.len {a : List Value} {ks : List Key} (h : KeysAre a ks) : a.length = ks.length := by
  induction h with
  | nil => rfl
  | cons _ _ ih => rw [List.length_cons, List.length_cons, ih]
theorem KeysAre.one {v : Value} {k : Key} {t : Tok} (h : v = kv k t) : KeysAre [v] [k] := .cons ⟨t, h⟩ .nil
theorem slice_neg (x : Str) (k : Nat) (h : k ≤ (Lst x).length) (h0 : 0 < k) : Lst (Txt.slice x (some (-(k : Int))) none) = (Lst x).drop ((Lst x).length - k) := by
  rw [slice_clip]
  have : clip (Lst x).length 0 (some (-(k : Int))) = (Lst x).length - k := by
    show (max 0 (min (if -(k : Int) < 0 then -(k : Int) + ((Lst x).length : Int) else -(k : Int)) ((Lst x).length : Int))).toNat = _
    rw [if_pos (by omega)]; omega
  rw [this]
  show ((Lst x).drop _).take ((Lst x).length - _) = _
  rw [List.take_of_length_le (by rw [List.length_drop]; omega)]
theorem slice_mid_neg (x : Str) (i k : Nat) (h : k ≤ (Lst x).length) (h0 : 0 < k) : Lst (Txt.slice x (some (i : Int)) (some (-(k : Int)))) = ((Lst x).drop i).take ((Lst x).length - k - i) := by
  rw [slice_clip]
  have h1 : clip (Lst x).length 0 (some (i : Int)) = min i (Lst x).length := by
    show (max 0 (min (if (i : Int) < 0 then (i : Int) + ((Lst x).length : Int) else i) ((Lst x).length : Int))).toNat = _
    rw [if_neg (by omega)]; omega
  have h2 : clip (Lst x).length (Lst x).length (some (-(k : Int))) = (Lst x).length - k := by
    show (max 0 (min (if -(k : Int) < 0 then -(k : Int) + ((Lst x).length : Int) else -(k : Int)) ((Lst x).length : Int))).toNat = _
    rw [if_pos (by omega)]; omega
  rw [h1, h2]
  by_cases hi : i ≤ (Lst x).length
  · rw [Nat.min_eq_left hi]
  · rw [Nat.min_eq_right (by omega), List.drop_of_length_le (Nat.le_refl _), List.drop_of_length_le (by omega), List.take_nil, List.take_nil]
theorem item_last {x : Str} {c : Nat} (h : (Lst x).getLast? = some c) : Txt.item x (-1) = Tx [c] := by
  have hne : Lst x ≠ [] := fun e => by rw [e] at h; cases h
  have hl : 0 < (Lst x).length := List.length_pos_iff.mpr hne
  refine lst_item_neg (by omega) (by omega) ?_
  rw [List.getLast?_eq_getElem?] at h
  rw [← h]
  congr 1
  omega
theorem not_beq {x : Str} {l : List Nat} {s : Str} (e : (x == s) = false) (h : Lst s = l) : (Lst x == l) = false := lit_eq e h
theorem cmd1 {x : Str} (h : (4 : Int) < (x.length : Int)) (h2 : (Txt.slice x none (some 2) == Str.ofString "<<") = true) : (Txt.slice x (some (-2)) none == Str.ofString ">>") = isCommand (Lst x) := by
  rw [lst_len] at h
  have a := lit_eq h2 (show Lst (Str.ofString "<<") = [60, 60] from by decide +kernel)
  rw [show (2 : Int) = ((2 : Nat) : Int) from rfl, slice_to] at a
  have b : Lst (Txt.slice x (some (-2)) none) = (Lst x).drop ((Lst x).length - 2) := slice_neg x 2 (by omega) (by omega)
  unfold isCommand
  rw [beq_lst, b, show Lst (Str.ofString ">>") = [62, 62] from by decide +kernel, a, decide_eq_true (by omega : 4 < (Lst x).length)]
  simp
theorem cmd2 {x : Str} (h2 : (Txt.slice x none (some 2) == Str.ofString "<<") = false) : (Txt.slice x none (some 2) == Str.ofString "<<") = isCommand (Lst x) := by
  have a := lit_eq h2 (show Lst (Str.ofString "<<") = [60, 60] from by decide +kernel)
  rw [show (2 : Int) = ((2 : Nat) : Int) from rfl, slice_to] at a
  unfold isCommand
  rw [h2, a]; simp
theorem cmd3 {x : Str} (h : ¬ (4 : Int) < (x.length : Int)) : decide ((4 : Int) < (x.length : Int)) = isCommand (Lst x) := by
  rw [decide_eq_false h]
  rw [lst_len] at h
  unfold isCommand
  rw [decide_eq_false (by omega : ¬ 4 < (Lst x).length)]; simp
theorem lt_lst : Lst (Str.ofString "<") = [60] := by decide +kernel
theorem gt_lst : Lst (Str.ofString ">") = [62] := by decide +kernel
theorem one_beq {c d : Nat} {s : Str} (h : Lst s = [d]) : (Tx [c] == s) = decide (c = d) := by
  rw [beq_lst, h, lst_Tx]; simp [Bool.beq_eq_decide_eq]
theorem ang1 {x : Str} (h : (2 : Int) < (x.length : Int)) (h2 : (Txt.item x 0 == Str.ofString "<") = true) : (Txt.item x (-1) == Str.ofString ">") = isAngled (Lst x) := by
  obtain ⟨a, b, c, r, e⟩ := hd3 h
  rw [item_0 e] at h2
  have ha := of_decide_eq_true (one_lit h2 lt_lst)
  have hl : (Lst x).getLast? = some ((a :: b :: c :: r).getLast (by simp)) := by rw [e]; exact List.getLast?_eq_some_getLast (by simp)
  rw [item_last hl, one_beq gt_lst]
  unfold isAngled
  rw [hl]
  simp only [e, ha, Bool.beq_eq_decide_eq, List.length_cons, List.head?_cons, Option.some.injEq]
  rw [decide_eq_true (by omega : 2 < r.length + 1 + 1 + 1)]; simp
theorem ang2 {x : Str} (h : (2 : Int) < (x.length : Int)) (h2 : (Txt.item x 0 == Str.ofString "<") = false) : (Txt.item x 0 == Str.ofString "<") = isAngled (Lst x) := by
  obtain ⟨a, b, c, r, e⟩ := hd3 h
  rw [item_0 e] at h2 ⊢
  have ha := of_decide_eq_false (one_lit h2 lt_lst)
  unfold isAngled
  rw [h2, e]
  simp [ha]
theorem ang3 {x : Str} (h : ¬ (2 : Int) < (x.length : Int)) : decide ((2 : Int) < (x.length : Int)) = isAngled (Lst x) := by
  rw [decide_eq_false h]
  rw [lst_len] at h
  unfold isAngled
  rw [decide_eq_false (by omega : ¬ 2 < (Lst x).length)]; simp
theorem retN2 {h₀ h' : Heap} {L : Addr} {m : Str → Option Value} {news led : Led} {s : Shared} {Q : Value → Shared → Prop} {O : Obj → Prop} {D : Addr} {o : Obj} {tk' : Nat}
    (hret : ∀ D o h' tk', Fr h₀ L h' m → News h₀ L h' ((D, o) :: news) → (∀ p ∈ news, p.1 ≠ D) → O o → Q (.ref D) { s with heap := h', toks := tk' })
    (F : Fr h₀ L h' m) (N : News h₀ L h' led) (hm : (D, o) ∈ led) (hs : ∀ p ∈ news, p ∈ led) (l : ∀ p ∈ news, p.1 ≠ D) (e : O o) : Q (.ref D) { s with heap := h', toks := tk' } :=
  hret D o h' tk' F (fun p hp => by
    rcases List.mem_cons.mp hp with rfl | hp
    · exact N _ hm
    · exact N p (hs p hp)) l e
theorem KeysAre.one' {v : Value} {k : Key} (h : ∃ t, v = kv k t) : KeysAre [v] [k] := .cons h .nil
end
-- KbLoop
section
open PySem.Spec PySem.Calls PyProof.Rows.LCg
section
variable {prog : Program} {w : World} {A : Around} {E : Value → Shared → Prop} {s : Shared} {env : Env} {h₀ : Heap} {target : Expr} {body : List Stmt} {Q : Flow → Shared → Prop}
theorem turns_core {s₂ : Shared} {I ax : Addr} {lo : Obj} {vs : List Value} {m₀ : Str → Option Value} {news : Led} {Md : Nat → Value → Heap → Prop} {St : Nat → Heap → Prop} (J : Nat → (Str → Option Value) → Led → Prop)
    (W : KTurns prog w A target I [I, ax] [I] vs.length (fun i v _ => vs[i]? = some v) Md St) (hLf : env.locals ∉ [I, ax]) (hI : h₀.get? I = none) (off : ∀ p ∈ news, p.1 ≠ I) (hst : St 0 s₂.heap)
    (F : Fr h₀ env.locals s₂.heap m₀) (N : News h₀ env.locals s₂.heap news) (hax : h₀.get? ax = none → (ax, lo) ∈ news) (hkeep : h₀.get? ax = none → ∀ i m nx, J i m nx → (ax, lo) ∈ nx) (hj : J 0 m₀ news)
    (turn : ∀ i v m₁ news₁ h tk own, vs[i]? = some v → news₁.map (·.1) = news.map (·.1) → OwnOff own (news.map (·.1)) → J i m₁ news₁ → Fr h₀ env.locals h m₁ → News h₀ env.locals h (news₁ ++ own) →
      wpAny (model prog w) A (assign target env v) (fun _ s₃ => wpAny (model prog w) A (execs body env) (InvPostN h₀ env.locals (J (i + 1)) own (news.map (·.1)) { s₂ with heap := h, toks := tk } Q) E s₃) E { s₂ with heap := h, toks := tk })
    (done : ∀ m₁ news₁ h tk, J vs.length m₁ news₁ → Fr h₀ env.locals h m₁ → News h₀ env.locals h news₁ → Q .next { s₂ with heap := h, toks := tk }) :
    TurnsAt prog w A h₀ env target body Q E (.ref I) s₂ := by
  refine ⟨I, _, _, vs.length, _, Md, St, m₀, news, (fun i m nx => nx.map (·.1) = news.map (·.1) ∧ J i m nx), rfl, W, hLf, ?_, ?_, hst, F, N, ⟨rfl, hj⟩, ?_, ?_⟩
  · intro b hb; rw [List.mem_singleton.mp hb]; exact hI
  · intro p hp hm; exact off p hp (List.mem_singleton.mp hm)
  · rintro i v m₁ news₁ hh' tk' own hin hP ⟨hadr, hJ⟩ hoff hown hget hfp _ F₁ N₁
    have hsep : OwnOff (own.filter fun p => decide (p.1 = I)) (news.map (·.1)) := by
      intro p hp b hb e
      obtain ⟨q, hq, rfl⟩ := List.mem_map.mp hb
      have h1 : p.1 = I := by simpa using (List.mem_filter.mp hp).2
      exact off q hq (by rw [← e, h1])
    have N₂ : News h₀ env.locals hh' (news₁ ++ own.filter fun p => decide (p.1 = I)) := fun p hp => N₁ p ((List.mem_append.mp hp).elim (fun h => List.mem_append.mpr (.inr h)) fun h => List.mem_append.mpr (.inl ((List.mem_filter.mp h).1)))
    refine wpAny_mono (turn i v m₁ news₁ hh' tk' _ hP hadr hsep hJ F₁ N₂) (fun _ s₃ h₃ => wpAny_mono h₃ (fun f s₄ p => ?_) fun _ _ e => e) fun _ _ e => e
    have fin : InvEndN h₀ env.locals (J (i + 1)) (own.filter fun p => decide (p.1 = I)) (news.map (·.1)) { s₂ with heap := hh', toks := tk' } s₄ →
        LoopStepU h₀ env.locals [I] own (fun m nx => nx.map (·.1) = news.map (·.1) ∧ J (i + 1) m nx) { s₂ with heap := hh', toks := tk' } .next s₄ := by
      rintro ⟨h', tk, m', news', nx, e, F', N', hn, ho, ha, hm⟩
      refine ⟨rfl, h', tk, m', nx, e, F', fun p hp => ?_, fun p hp => ?_, ha, hm⟩
      · rcases List.mem_append.mp hp with h | h
        · by_cases hpI : p.1 = I
          · exact N' p (ho p (List.mem_filter.mpr ⟨h, by simpa using hpI⟩))
          · have h1 : p.1 = ax := by
              rcases List.mem_cons.mp (hown p h) with h2 | h2
              · exact absurd h2 hpI
              · exact List.mem_singleton.mp h2
            have h0 : h₀.get? ax = none := h1 ▸ (N₁ p (List.mem_append.mpr (.inl h))).2.2
            have h2 : hh'.get? p.1 = some p.2 := hget p h
            have hlo : hh'.get? ax = some lo := (N₁ _ (List.mem_append.mpr (.inr (hkeep h0 _ _ _ hJ)))).1
            rw [h1, hlo] at h2
            have h3 : p = (ax, lo) := Prod.ext h1 (Option.some.inj h2).symm
            rw [h3]
            exact N' _ (hn _ (hkeep h0 _ _ _ hm))
        · exact N' p (hn p h)
      · have h1 : p.1 ∈ nx.map (·.1) := List.mem_map.mpr ⟨p, hp, rfl⟩
        rw [ha] at h1
        obtain ⟨q, hq, e⟩ := List.mem_map.mp h1
        intro hI'
        exact off q hq (by rw [e, List.mem_singleton.mp hI'])
    cases f with
    | ret v => exact .ret p
    | brk => exact .brk p
    | next => exact .next (fin p)
    | cont => exact .cont (fin p)
  · rintro h' tk m' news' F' N' _ ⟨_, hJ⟩
    exact done m' news' h' tk hJ F' N'
theorem kturns_list (hh : A.handled = none) (I ax : Addr) (hne : ax ≠ I) (vs : List Value) :
    KTurns prog w A target I [I, ax] [I] vs.length (fun i v _ => vs[i]? = some v) (fun i v h => vs[i]? = some v ∧ (h.IsListIter I ax (i + 1) ∧ h.IsList ax vs.toArray)) (fun i h => h.IsListIter I ax i ∧ h.IsList ax vs.toArray) := by
  have W := Walks.list (prog := prog) (w := w) hh I ax hne vs.toArray
  have e : vs.toArray.size = vs.length := by simp
  rw [e] at W
  have e2 : (fun i v => vs.toArray[i]? = some v) = fun (i : Nat) (v : Value) => vs[i]? = some v := by funext i v; simp
  rw [e2] at W
  exact KTurns.ofWalks W fun i v s Q E st q => letGo_listiter st.1 q
theorem kturns_tuple (hh : A.handled = none) (I ax : Addr) (hne : ax ≠ I) (vs : List Value) :
    KTurns prog w A target I [I, ax] [I] vs.length (fun i v _ => vs[i]? = some v) (fun i v h => vs[i]? = some v ∧ (h.IsTupleIter I ax (i + 1) ∧ h.IsTuple ax vs.toArray)) (fun i h => h.IsTupleIter I ax i ∧ h.IsTuple ax vs.toArray) := by
  have W := Walks.tuple (prog := prog) (w := w) hh I ax hne vs.toArray
  have e : vs.toArray.size = vs.length := by simp
  rw [e] at W
  have e2 : (fun i v => vs.toArray[i]? = some v) = fun (i : Nat) (v : Value) => vs[i]? = some v := by funext i v; simp
  rw [e2] at W
  exact KTurns.ofWalks W fun i v s Q E st q => letGo_tupleiter st.1 q
/-- a list of the ledger -/
theorem iter_listN {ax : Addr} {nn : Nat} {vs : List Value} {m₀ : Str → Option Value} {news : Led} (J : Nat → (Str → Option Value) → Led → Prop)
    (hh : A.handled = none) (hl : (ax, listOf vs.toArray nn) ∈ news) (F : Fr h₀ env.locals s.heap m₀) (N : News h₀ env.locals s.heap news) (hkeep : ∀ i m nx, J i m nx → (ax, listOf vs.toArray nn) ∈ nx) (hj : J 0 m₀ news)
    (turn : ∀ i v m₁ news₁ h tk own, vs[i]? = some v → news₁.map (·.1) = news.map (·.1) → OwnOff own (news.map (·.1)) → J i m₁ news₁ → Fr h₀ env.locals h m₁ → News h₀ env.locals h (news₁ ++ own) →
      wpAny (model prog w) A (assign target env v) (fun _ s₃ => wpAny (model prog w) A (execs body env) (InvPostN h₀ env.locals (J (i + 1)) own (news.map (·.1)) { s with heap := h, toks := tk } Q) E s₃) E { s with heap := h, toks := tk })
    (done : ∀ m₁ news₁ h tk, J vs.length m₁ news₁ → Fr h₀ env.locals h m₁ → News h₀ env.locals h news₁ → Q .next { s with heap := h, toks := tk }) :
    wpAny (model prog w) A (pyIter (.ref ax)) (fun it s₂ => TurnsAt prog w A h₀ env target body Q E it s₂) E s := by
  have hol : s.heap.get? ax = some (listOf vs.toArray nn) := (N _ hl).1
  have hls : s.heap.IsList ax vs.toArray := ⟨_, hol, rfl, nn, rfl⟩
  have hlt := Heap.lt_size hol
  refine wpAny_pyIter_list hls ?_
  refine turns_core (lo := listOf vs.toArray nn) J (kturns_list hh _ ax (Nat.ne_of_lt hlt) vs) ?_ (next_is_new F) (fun p hp e => ?_) ⟨⟨_, Heap.get?_push_size _ rfl, rfl, rfl⟩, hls.at fun o e => Heap.get?_push_of_some _ e⟩ (F.push _)
    (fun p hp => ⟨Heap.get?_push_of_some _ (N p hp).1, (N p hp).2⟩) (fun _ => hl) (fun _ => hkeep) hj turn done
  · intro hm
    rcases List.mem_cons.mp hm with e | hm
    · exact absurd F.ns.lt (e ▸ Nat.lt_irrefl _)
    · exact (N _ hl).2.1 ((List.mem_singleton.mp hm).symm)
  · exact absurd (Heap.lt_size (N p hp).1) (e ▸ Nat.lt_irrefl _)
/-- a tuple of the ledger -/
theorem iter_tupN {ax : Addr} {nn : Nat} {vs : List Value} {m₀ : Str → Option Value} {news : Led} (J : Nat → (Str → Option Value) → Led → Prop)
    (hh : A.handled = none) (hl : (ax, ({ cls := .type "tuple", data := .seq vs.toArray nn } : Obj)) ∈ news) (F : Fr h₀ env.locals s.heap m₀) (N : News h₀ env.locals s.heap news) (hkeep : ∀ i m nx, J i m nx → (ax, ({ cls := .type "tuple", data := .seq vs.toArray nn } : Obj)) ∈ nx) (hj : J 0 m₀ news)
    (turn : ∀ i v m₁ news₁ h tk own, vs[i]? = some v → news₁.map (·.1) = news.map (·.1) → OwnOff own (news.map (·.1)) → J i m₁ news₁ → Fr h₀ env.locals h m₁ → News h₀ env.locals h (news₁ ++ own) →
      wpAny (model prog w) A (assign target env v) (fun _ s₃ => wpAny (model prog w) A (execs body env) (InvPostN h₀ env.locals (J (i + 1)) own (news.map (·.1)) { s with heap := h, toks := tk } Q) E s₃) E { s with heap := h, toks := tk })
    (done : ∀ m₁ news₁ h tk, J vs.length m₁ news₁ → Fr h₀ env.locals h m₁ → News h₀ env.locals h news₁ → Q .next { s with heap := h, toks := tk }) :
    wpAny (model prog w) A (pyIter (.ref ax)) (fun it s₂ => TurnsAt prog w A h₀ env target body Q E it s₂) E s := by
  have hol : s.heap.get? ax = some ({ cls := .type "tuple", data := .seq vs.toArray nn } : Obj) := (N _ hl).1
  have hls : s.heap.IsTuple ax vs.toArray := ⟨_, hol, rfl, nn, rfl⟩
  have hlt := Heap.lt_size hol
  refine wpAny_pyIter_tuple hls ?_
  refine turns_core (lo := { cls := .type "tuple", data := .seq vs.toArray nn }) J (kturns_tuple hh _ ax (Nat.ne_of_lt hlt) vs) ?_ (next_is_new F) (fun p hp e => ?_) ⟨⟨_, Heap.get?_push_size _ rfl, rfl, rfl⟩, hls.at fun o e => Heap.get?_push_of_some _ e⟩ (F.push _)
    (fun p hp => ⟨Heap.get?_push_of_some _ (N p hp).1, (N p hp).2⟩) (fun _ => hl) (fun _ => hkeep) hj turn done
  · intro hm
    rcases List.mem_cons.mp hm with e | hm
    · exact absurd F.ns.lt (e ▸ Nat.lt_irrefl _)
    · exact (N _ hl).2.1 ((List.mem_singleton.mp hm).symm)
  · exact absurd (Heap.lt_size (N p hp).1) (e ▸ Nat.lt_irrefl _)
/-- a tuple of the text's own -/
theorem iter_tupK {ax : Addr} {vs : List Value} {m₀ : Str → Option Value} {news : Led} (J : Nat → (Str → Option Value) → Led → Prop)
    (hh : A.handled = none) (hl : IsTup h₀ ax vs.toArray) (F : Fr h₀ env.locals s.heap m₀) (N : News h₀ env.locals s.heap news) (hj : J 0 m₀ news)
    (turn : ∀ i v m₁ news₁ h tk own, vs[i]? = some v → news₁.map (·.1) = news.map (·.1) → OwnOff own (news.map (·.1)) → J i m₁ news₁ → Fr h₀ env.locals h m₁ → News h₀ env.locals h (news₁ ++ own) →
      wpAny (model prog w) A (assign target env v) (fun _ s₃ => wpAny (model prog w) A (execs body env) (InvPostN h₀ env.locals (J (i + 1)) own (news.map (·.1)) { s with heap := h, toks := tk } Q) E s₃) E { s with heap := h, toks := tk })
    (done : ∀ m₁ news₁ h tk, J vs.length m₁ news₁ → Fr h₀ env.locals h m₁ → News h₀ env.locals h news₁ → Q .next { s with heap := h, toks := tk }) :
    wpAny (model prog w) A (pyIter (.ref ax)) (fun it s₂ => TurnsAt prog w A h₀ env target body Q E it s₂) E s := by
  obtain ⟨o, ho, hc, n, hd⟩ := hl
  have hol : s.heap.get? ax = some o := F.keep _ _ ho
  have hls : s.heap.IsTuple ax vs.toArray := ⟨_, hol, hc, n, hd⟩
  have hlt := Heap.lt_size hol
  have no : h₀.get? ax = none → False := fun e => by rw [ho] at e; cases e
  refine wpAny_pyIter_tuple hls ?_
  refine turns_core (lo := o) J (kturns_tuple hh _ ax (Nat.ne_of_lt hlt) vs) ?_ (next_is_new F) (fun p hp e => ?_) ⟨⟨_, Heap.get?_push_size _ rfl, rfl, rfl⟩, hls.at fun o e => Heap.get?_push_of_some _ e⟩ (F.push _)
    (fun p hp => ⟨Heap.get?_push_of_some _ (N p hp).1, (N p hp).2⟩) (fun h => (no h).elim) (fun h => (no h).elim) hj turn done
  · intro hm
    rcases List.mem_cons.mp hm with e | hm
    · exact absurd F.ns.lt (e ▸ Nat.lt_irrefl _)
    · have := Nat.lt_of_lt_of_le (Heap.lt_size ho) F.above
      rw [List.mem_singleton.mp hm] at this
      exact absurd this (Nat.lt_irrefl _)
  · exact absurd (Heap.lt_size (N p hp).1) (e ▸ Nat.lt_irrefl _)
/-- two names bound to a pair -/
theorem assign_pair {a b : Str} {pa pb tp : Pos} {kk : Nat} {T : Addr} {x y : Value} {m : Str → Option Value} {news : Led} {K : Unit → Shared → Prop} (hh : A.handled = none) (F : Fr h₀ env.locals s.heap m) (N : News h₀ env.locals s.heap news) (ht : IsTup s.heap T #[x, y])
    (ha : env.kindOf a = some .local) (hb : env.kindOf b = some .local) (hp : (env.scope.kind == .class || (env.scope.kind == .module && env.locals != env.globals)) = false)
    (h : ∀ (h' : Heap) (tk : Nat), Fr h₀ env.locals h' (fun z => if z = b then some y else if z = a then some x else m z) → News h₀ env.locals h' news → K () { s with heap := h', toks := tk }) :
    wpAny (model prog w) A (assign (.Tuple [.Name a pa, .Name b pb] kk tp) env (.ref T)) K E s := by
  refine kcp_assign hh ht ha hb hp F.ns fun h' tk hn hk => ?_
  exact h h' tk ⟨hn, fun c o e => hk c o (fun q => absurd (Heap.lt_size e) (by rw [q]; exact Nat.not_lt.mpr F.above)) (F.keep c o e), F.above⟩ fun p hp => ⟨hk _ _ (N p hp).2.1 (N p hp).1, (N p hp).2⟩
end

section
variable {prog : Program} {w : World} {A : Around} {E : Value → Shared → Prop} {s : Shared} {env : Env} {h₀ : Heap} {L : Addr} {m : Str → Option Value}
theorem csrc_pairs {I : Addr} {fp wr : List Addr} {n : Nat} {V : Nat → Value → Prop} {St : Nat → Heap → Prop} {a b : Str} {pa pb tp : Pos} {kk : Nat} (tps : List (Addr × Value × Value)) (W : Walks prog w A I fp wr n V St) (hh : A.handled = none)
    (hgo : ∀ i (s : Shared) (v : Value) (Q : Unit → Shared → Prop) (E : Value → Shared → Prop), St i s.heap → Q () s → wpAny (model prog w) A (letOwnedTupleGo (.Tuple [.Name a pa, .Name b pb] kk tp) (.ref I) v) Q E s)
    (hV : ∀ i v, V i v → ∃ T x y, tps[i]? = some (T, x, y) ∧ v = .ref T) (hT : ∀ p ∈ tps, p.1 ∉ wr) :
    CSrc prog w A (.Tuple [.Name a pa, .Name b pb] kk tp) [a, b] I (fp ++ tps.map (·.1)) wr n (fun i m => ∃ T x y, tps[i]? = some (T, x, y) ∧ m a = (if a = b then some y else some x) ∧ m b = some y) (fun i h => St i h ∧ ∀ p ∈ tps, IsTup h p.1 #[p.2.1, p.2.2]) where
  sub := fun b hb => List.mem_append_left _ (W.sub b hb)
  frame := fun i h h' st hk => ⟨W.frame i h h' st.1 fun b hb o e => hk b (List.mem_append_left _ hb) o e, fun p hp => by
    obtain ⟨o, ho, r⟩ := st.2 p hp
    exact ⟨o, hk p.1 (List.mem_append_right _ (List.mem_map_of_mem hp)) o ho, r⟩⟩
  item := fun i s cenv m' Q E hi st hn hC hk hp hQ => by
    refine W.item i s _ _ hi st.1 fun v h' tk hv hst' hk' => ?_
    obtain ⟨T, x, y, hTi, rfl⟩ := hV i v hv
    have hmem := List.mem_of_getElem? hTi
    have hTn := hT _ hmem
    show wpAny _ _ (letOwnedTupleGo _ (.ref I) (.ref T)) _ _ _
    refine hgo (i + 1) _ _ _ _ hst' ?_
    have hCf : cenv.locals ∉ fp := fun q => hC (List.mem_append_left _ q)
    have hn' : h'.Ns cenv.locals m' := hn.at' fun o e => hk' _ o (fun h => hCf (W.sub _ h)) e
    have hTup : ∀ p ∈ tps, IsTup h' p.1 #[p.2.1, p.2.2] := fun p hp => by
      obtain ⟨o, ho, r⟩ := st.2 p hp
      exact ⟨o, hk' p.1 o (hT p hp) ho, r⟩
    refine kcp_assign hh (hTup _ hmem) (hk a (.head _)) (hk b (.tail _ (.head _))) hp hn' fun h₂ tk₂ hn₂ hk₂ => ?_
    refine hQ h₂ _ _ hn₂ ⟨T, x, y, hTi, ?_, by simp⟩ ⟨W.frame _ _ _ hst' fun b hb o e => hk₂ b o (fun q => hCf (q ▸ hb)) e, fun p hp => ?_⟩ fun b o hb hbC e => hk₂ b o hbC (hk' b o hb e)
    · show (if a = b then some y else if a = a then some x else m' a) = _
      rw [if_pos rfl]
    · obtain ⟨o, ho, r⟩ := hTup p hp
      exact ⟨o, hk₂ p.1 o (fun q => hC (List.mem_append_right _ (q ▸ List.mem_map_of_mem hp))) ho, r⟩
  done := fun s Q E st hQ => W.done s Q E st.1 hQ
  self := fun i s Q E st hQ => W.self i s Q E st.1 hQ
end
def Held (P : Prop) : Prop := P
theorem held_ {P : Prop} (h : Held P) : P := h
theorem heldI {P : Prop} (h : P) : Held P := h
theorem fr_set {h₀ h : Heap} {L : Addr} {m : Str → Option Value} {x : Str} {v : Value} (e : m x = some v) (F : Fr h₀ L h m) : Fr h₀ L h (fun z => if z = x then some v else m z) := by
  have : (fun z => if z = x then some v else m z) = m := by
    funext z
    by_cases h : z = x
    · rw [if_pos h, h, e]
    · rw [if_neg h]
  rw [this]; exact F
section
variable {prog : Program} {w : World} {A : Around} {E : Value → Shared → Prop} {s : Shared} {h₀ : Heap} {L : Addr} {m : Str → Option Value} {news : Led}
theorem new_lt (N : News h₀ L s.heap news) : ∀ p ∈ news, p.1 < s.heap.objs.size := fun p hp => Heap.lt_size (N p hp).1
theorem add_listsD {a b : Addr} {xs ys : List Value} {n k : Nat} {Q : Value → Shared → Prop} (F : Fr h₀ L s.heap m) (N : News h₀ L s.heap news) (ha : (a, listOf xs.toArray n) ∈ news) (hb : (b, listOf ys.toArray k) ∈ news) (hsz : xs.length + ys.length ≤ 16777216)
    (h : ∀ D h', Fr h₀ L h' m → News h₀ L h' ((D, listOf (xs ++ ys).toArray 0) :: news) → (∀ p ∈ news, p.1 < D) → Q (.ref D) { s with heap := h' }) :
    wpAny (model prog w) A (binaryOp .Add (.ref a) (.ref b)) Q E s :=
  add_arrays (its := xs.toArray) (its2 := ys.toArray) (hsz := by simpa [sizeLine_eq] using hsz) F N (N.isList ha) (N.isList hb) fun h' F' N' => h _ h' F' N' (new_lt N)
theorem mul_listD {a : Addr} {xs : List Value} {n : Nat} {x : Int} {u : Tok} {Q : Value → Shared → Prop} (F : Fr h₀ L s.heap m) (N : News h₀ L s.heap news) (ha : (a, listOf xs.toArray n) ∈ news)
    (hlo : -(2 ^ 63 : Int) ≤ x) (hhi : x < 2 ^ 63) (hsz : xs.length * x.toNat ≤ 2 ^ 24)
    (h : ∀ D h', Fr h₀ L h' m → News h₀ L h' ((D, listOf (List.replicate x.toNat xs).flatten.toArray 0) :: news) → (∀ p ∈ news, p.1 < D) → Q (.ref D) { s with heap := h' }) :
    wpAny (model prog w) A (binaryOp .Mult (.ref a) (.int x u)) Q E s := by
  refine mul_list (items := xs.toArray) F N (N _ ha).1 hlo hhi (by simpa using hsz) fun h' F' N' => ?_
  have e : (List.foldl (fun x1 x2 => x1 ++ x2) #[] (List.replicate (if xs.toArray.isEmpty = true then 0 else x.toNat) xs.toArray)) = (List.replicate x.toNat xs).flatten.toArray := by
    rw [listMul_foldl]
    cases xs with
    | nil => simp
    | cons v r => simp
  rw [e] at N'
  exact h _ h' F' N' (new_lt N)
theorem lt_nes {D : Addr} (h : ∀ p ∈ news, p.1 < D) : ∀ p ∈ news, p.1 ≠ D := fun p hp => Nat.ne_of_lt (h p hp)
end
end
-- KbX
section
open PySem.Spec PySem.Calls PyProof.Rows.LCg
/-- what a turn of a block leaves, the ledger turned -/
def TEndJ (h₀ : Heap) (L : Addr) (m : Str → Option Value) (s₁ : Shared) (led : Led) (J : Led → Prop) (s₂ : Shared) : Prop :=
  ∃ h' tk nx, s₂ = { s₁ with heap := h', toks := tk } ∧ Fr h₀ L h' m ∧ News h₀ L h' (nx ++ led) ∧ J nx
theorem TEndJ.intro {h₀ : Heap} {L : Addr} {m : Str → Option Value} {s₁ : Shared} {led nx led' : Led} {J : Led → Prop} {h' : Heap} {tk : Nat} (F : Fr h₀ L h' m) (N : News h₀ L h' led') (hs : ∀ p ∈ nx ++ led, p ∈ led') (j : J nx) : TEndJ h₀ L m s₁ led J { s₁ with heap := h', toks := tk } := ⟨h', tk, nx, rfl, F, fun p hp => N p (hs p hp), j⟩
section
variable {prog : Program} {w : World} {A : Around} {E : Value → Shared → Prop} {s : Shared} {h₀ : Heap} {L : Addr} {m : Str → Option Value} {env : Env}
theorem comp_core {upd : Addr → Str → Option Value} {elt tgt : Expr} {c : Option Expr} {xs : List Str} {scope : Scope} {cl : List (Str × Addr)} {Q : Value → Shared → Prop} {news : Led} {s₂ : Shared} {I : Addr} {fp : List Addr} {n : Nat} {P : Nat → (Str → Option Value) → Prop} {St : Nat → Heap → Prop} (J : Nat → List Value → Led → Prop)
    (hadr : ∀ i ys nx, J i ys nx → nx.map (·.1) = news.map (·.1)) (W : CSrc prog w A tgt xs I fp [I] n P St) (hn : n ≤ sizeLine) (hst : St 0 s₂.heap) (hfp : ∀ b ∈ fp, b < s₂.heap.objs.size) (F : Fr h₀ L s₂.heap m) (N : News h₀ L s₂.heap news) (hL : L ∉ fp) (hI : h₀.get? I = none) (hnI : ∀ p ∈ news, p.1 ≠ I) (hJ : J 0 [] news)
    (turn : ∀ i ys nx own C oC D m₂ h tk (E' : Value → Shared → Prop), i < n → P i m₂ → J i ys nx → (∀ p ∈ own, p.1 ∈ fp) → (∀ p ∈ nx, p.1 ≠ I ∧ p.1 ≠ C ∧ p.1 ≠ D) → NsObj oC m₂ → Fr h₀ L h m → News h₀ L h (nx ++ ((C, oC) :: (D, lst ys) :: own)) →
      CTest prog w A c (compEnvC scope cl C env) (fun s' => wpAny (model prog w) A (eval elt (compEnvC scope cl C env)) (fun v s₅ => TEndJ h₀ L m { s₂ with heap := h, toks := tk } ((C, oC) :: (D, lst ys) :: own) (J (i + 1) (ys ++ [v])) s₅) E' s')
        (TEndJ h₀ L m { s₂ with heap := h, toks := tk } ((C, oC) :: (D, lst ys) :: own) (J (i + 1) ys)) E' { s₂ with heap := h, toks := tk })
    (done : ∀ D h tk ys nx, J n ys nx → Fr h₀ L h (upd D) → News h₀ L h ((D, lst ys) :: nx) → (∀ p ∈ nx, p.1 ≠ D) → Q (.ref D) { s₂ with heap := h, toks := tk }) :
    CompAtU upd prog w A h₀ L m env elt tgt c xs scope cl Q (.ref I) s₂ := by
  refine ⟨I, fp, [I], n, P, St, news, J, rfl, W, hn, hst, hfp, F, N, hL, fun b hb => by rw [List.mem_singleton.mp hb]; exact hI, fun p hp hm => hnI p hp (List.mem_singleton.mp hm), hJ, ?_, ?_⟩
  · rintro i ys nx own C oC D m₂ h tk E' hi hyl hP hJi hown off hC hD hCD hN F₁ N₁
    have off' : ∀ p ∈ nx, p.1 ≠ I ∧ p.1 ≠ C ∧ p.1 ≠ D := fun p hp => ⟨fun e => (off p hp).1 (List.mem_singleton.mpr e), (off p hp).2⟩
    have N₂ : News h₀ L h (nx ++ ((C, oC) :: (D, lst ys) :: own)) := fun p hp => N₁ p (by
      simp only [List.mem_append, List.mem_cons, List.not_mem_nil, or_false] at hp ⊢
      rcases hp with h | h | h | h
      · exact .inr h
      · exact .inl (.inr (.inl h))
      · exact .inl (.inr (.inr h))
      · exact .inl (.inl h))
    have conv : ∀ {zs : List Value} {s₅ : Shared}, TEndJ h₀ L m { s₂ with heap := h, toks := tk } ((C, oC) :: (D, lst ys) :: own) (J (i + 1) zs) s₅ →
        ∃ h' tk' news', s₅ = { s₂ with heap := h', toks := tk' } ∧ Fr h₀ L h' m ∧ News h₀ L h' ((own ++ [(C, oC), (D, lst ys)]) ++ news') ∧ (∀ p ∈ news', p.1 ∉ [I] ∧ p.1 ≠ C ∧ p.1 ≠ D) ∧ J (i + 1) zs news' := by
      rintro zs s₅ ⟨h', tk', nx', rfl, F', N', j⟩
      refine ⟨h', tk', nx', rfl, F', fun p hp => N' p (by
        simp only [List.mem_append, List.mem_cons, List.not_mem_nil, or_false] at hp ⊢
        rcases hp with (h | h | h) | h
        · exact .inr (.inr (.inr h))
        · exact .inr (.inl h)
        · exact .inr (.inr (.inl h))
        · exact .inl h), fun p hp => ?_, j⟩
      have h1 : p.1 ∈ nx'.map (·.1) := List.mem_map_of_mem hp
      rw [hadr _ _ _ j, ← hadr _ _ _ hJi] at h1
      obtain ⟨q, hq, e⟩ := List.mem_map.mp h1
      rw [← e]
      exact off q hq
    refine CTest.mono (turn i ys nx own C oC D m₂ h tk E' hi.1 hP hJi hown off' hN F₁ N₂) (fun s' h' => wpAny_mono h' (fun v s₅ h₅ => conv h₅) fun _ _ e => e) (fun s' h₅ => conv h₅)
  · rintro D h tk ys nx F' N' o1 hJn
    exact done D h tk ys nx hJn F' N' o1
theorem comp_pairs {upd : Addr → Str → Option Value} {elt : Expr} {c : Option Expr} {a b : Str} {pa pb tp : Pos} {kk : Nat} {scope : Scope} {cl : List (Str × Addr)} {Q : Value → Shared → Prop} {news : Led} {Ad : Addr} {nA : Nat} {tps : List (Addr × Value × Value)} (J : Nat → List Value → Led → Prop)
    (hadr : ∀ i ys nx, J i ys nx → nx.map (·.1) = news.map (·.1)) (hh : A.handled = none) (F : Fr h₀ L s.heap m) (N : News h₀ L s.heap news) (hA : (Ad, listOf (tps.map fun p => Value.ref p.1).toArray nA) ∈ news) (hT : ∀ p ∈ tps, (p.1, ({ cls := .type "tuple", data := .seq #[p.2.1, p.2.2] } : Obj)) ∈ news) (hn : tps.length ≤ sizeLine) (hab : a ≠ b) (hJ : J 0 [] news)
    (turn : ∀ i T x y ys nx own I C oC D m₂ h tk (E' : Value → Shared → Prop), tps[i]? = some (T, x, y) → m₂ a = some x → m₂ b = some y → J i ys nx → (∀ p ∈ own, p.1 = I ∨ p.1 = Ad ∨ ∃ q ∈ tps, p.1 = q.1) → (∀ p ∈ nx, p.1 ≠ I ∧ p.1 ≠ C ∧ p.1 ≠ D) → NsObj oC m₂ → Fr h₀ L h m → News h₀ L h (nx ++ ((C, oC) :: (D, lst ys) :: own)) →
      CTest prog w A c (compEnvC scope cl C env) (fun s' => wpAny (model prog w) A (eval elt (compEnvC scope cl C env)) (fun v s₅ => TEndJ h₀ L m { s with heap := h, toks := tk } ((C, oC) :: (D, lst ys) :: own) (J (i + 1) (ys ++ [v])) s₅) E' s')
        (TEndJ h₀ L m { s with heap := h, toks := tk } ((C, oC) :: (D, lst ys) :: own) (J (i + 1) ys)) E' { s with heap := h, toks := tk })
    (done : ∀ D h tk ys nx, J tps.length ys nx → Fr h₀ L h (upd D) → News h₀ L h ((D, lst ys) :: nx) → (∀ p ∈ nx, p.1 ≠ D) → Q (.ref D) { s with heap := h, toks := tk }) :
    wpAny (model prog w) A (pyIter (.ref Ad)) (fun it s₂ => CompAtU upd prog w A h₀ L m env elt (.Tuple [.Name a pa, .Name b pb] kk tp) c [a, b] scope cl Q it s₂) E s := by
  have hol := (N _ hA).1
  have hls : s.heap.IsList Ad (tps.map fun p => Value.ref p.1).toArray := ⟨_, hol, rfl, nA, rfl⟩
  have hlt : Ad < s.heap.objs.size := Heap.lt_size hol
  have hTt : ∀ p ∈ tps, IsTup s.heap p.1 #[p.2.1, p.2.2] := fun p hp => ⟨_, (N _ (hT p hp)).1, rfl, 0, rfl⟩
  have hTl : ∀ p ∈ tps, p.1 < s.heap.objs.size := fun p hp => Heap.lt_size (N _ (hT p hp)).1
  refine wpAny_pyIter_list hls ?_
  have W := Walks.list (prog := prog) (w := w) hh s.heap.objs.size Ad (Nat.ne_of_lt hlt) (tps.map fun p => Value.ref p.1).toArray
  have e : (tps.map fun p => Value.ref p.1).toArray.size = tps.length := by simp
  rw [e] at W
  refine comp_core J hadr (csrc_pairs tps W hh (fun i s v Q E st q => letGo_listiter st.1 q) (fun i v hv => ?_) (fun p hp hm => ?_)) hn ⟨⟨⟨_, Heap.get?_push_size _ rfl, rfl, rfl⟩, hls.at fun o e => Heap.get?_push_of_some _ e⟩, fun p hp => ?_⟩ (fun b hb => ?_) (F.push _) (fun p hp => ⟨Heap.get?_push_of_some _ (N p hp).1, (N p hp).2⟩) ?_ (next_is_new F) (fun p hp e => ?_) hJ ?_ done
  · have hv' : (tps.map fun p => Value.ref p.1)[i]? = some v := by simpa using hv
    rw [List.getElem?_map] at hv'
    obtain ⟨q, hq, e⟩ := Option.map_eq_some_iff.mp hv'
    exact ⟨q.1, q.2.1, q.2.2, hq, e.symm⟩
  · exact absurd (hTl p hp) ((List.mem_singleton.mp hm) ▸ Nat.lt_irrefl _)
  · obtain ⟨o, ho, r⟩ := hTt p hp
    exact ⟨o, Heap.get?_push_of_some _ ho, r⟩
  · show _ < (s.heap.push _).objs.size
    rw [Heap.size_push]
    rcases List.mem_append.mp hb with hb | hb
    · rcases List.mem_cons.mp hb with rfl | hb
      · exact Nat.lt_succ_self _
      · rw [List.mem_singleton.mp hb]; exact Nat.lt_succ_of_lt hlt
    · obtain ⟨q, hq, rfl⟩ := List.mem_map.mp hb
      exact Nat.lt_succ_of_lt (hTl q hq)
  · intro hm
    rcases List.mem_append.mp hm with hm | hm
    · rcases List.mem_cons.mp hm with e | hm
      · exact absurd F.ns.lt (e ▸ Nat.lt_irrefl _)
      · exact (N _ hA).2.1 ((List.mem_singleton.mp hm).symm)
    · obtain ⟨q, hq, e⟩ := List.mem_map.mp hm
      exact (N _ (hT q hq)).2.1 e
  · exact absurd (Heap.lt_size (N p hp).1) (e ▸ Nat.lt_irrefl _)
  · rintro i ys nx own C oC D m₂ h tk E' hi ⟨T, x, y, hTi, hma, hmb⟩ hJi hown off hN F₁ N₁
    rw [if_neg hab] at hma
    refine turn i T x y ys nx own _ C oC D m₂ h tk E' hTi hma hmb hJi (fun p hp => ?_) off hN F₁ N₁
    rcases List.mem_append.mp (hown p hp) with h | h
    · rcases List.mem_cons.mp h with h | h
      · exact .inl h
      · exact .inr (.inl (List.mem_singleton.mp h))
    · obtain ⟨q, hq, e⟩ := List.mem_map.mp h
      exact .inr (.inr ⟨q, hq, e.symm⟩)
end
end
-- KbCr
section
open PySem.Spec PySem.Calls PyProof.Rows.LCg
section
variable {prog : Program} {w : World} {A : Around} {E : Value → Shared → Prop} {s : Shared} {h₀ : Heap} {L : Addr} {m : Str → Option Value} {env : Env}
/-- what a turn of a block over a range leaves, with what it has made -/
def TEndR (h₀ : Heap) (L : Addr) (m : Str → Option Value) (s₁ : Shared) (I C D : Addr) (led : Led) (J : Led → Prop) (s₂ : Shared) : Prop :=
  ∃ h' tk nx, s₂ = { s₁ with heap := h', toks := tk } ∧ Fr h₀ L h' m ∧ News h₀ L h' (led ++ nx) ∧ (∀ p ∈ nx, p.1 ≠ I ∧ p.1 ≠ C ∧ p.1 ≠ D) ∧ J nx
theorem comp_rangeG {upd : Addr → Str → Option Value} {elt : Expr} {y : Str} {py : Pos} {scope : Scope} {cl : List (Str × Addr)} {Q : Value → Shared → Prop} {news : Led} {R : Addr} {t u v : Tok} {n : Nat} (J : Nat → List Value → Led → Prop)
    (hh : A.handled = none) (hr : IsRange s.heap R 0 (n : Int) 1 t u v) (hn : n ≤ 1000) (F : Fr h₀ L s.heap m) (N : News h₀ L s.heap news) (hJ : J 0 [] news)
    (turn : ∀ i ys nx I oI C oC D m₂ h tk (E' : Value → Shared → Prop), i < n → J i ys nx → (∀ p ∈ nx, p.1 ≠ I ∧ p.1 ≠ C ∧ p.1 ≠ D) → NsObj oC m₂ → Fr h₀ L h m → News h₀ L h ((I, oI) :: (C, oC) :: (D, lst ys) :: nx) →
      wpAny (model prog w) A (eval elt (compEnvC scope cl C env)) (fun v s₅ => TEndR h₀ L m { s with heap := h, toks := tk } I C D [(I, oI), (C, oC), (D, lst ys)] (J (i + 1) (ys ++ [v])) s₅) E' { s with heap := h, toks := tk })
    (done : ∀ D h tk ys nx, J n ys nx → Fr h₀ L h (upd D) → News h₀ L h ((D, lst ys) :: nx) → (∀ p ∈ nx, p.1 ≠ D) → Q (.ref D) { s with heap := h, toks := tk }) :
    wpAny (model prog w) A (pyIter (.ref R)) (fun it s₂ => CompAtU upd prog w A h₀ L m env elt (.Name y py) none [y] scope cl Q it s₂) E s := by
  refine wpAny_pyIter_range hr (small_one (by decide) (by decide) (by omega) (by omega)) ?_
  have low : ∀ p ∈ news, p.1 < s.heap.objs.size := fun p hp => Heap.lt_size (N p hp).1
  have hI0 : h₀.get? s.heap.objs.size = none := next_is_new F
  refine ⟨s.heap.objs.size, [s.heap.objs.size], [s.heap.objs.size], n, _, _, news, J, rfl, csrc_name (Walks.range hh s.heap.objs.size 0 1 n) (fun _ h => h), by rw [sizeLine_eq]; omega, ?_, ?_, F.push _, (fun p hp => ⟨Heap.get?_push_of_some _ (N p hp).1, (N p hp).2⟩), ?_, ?_, ?_, hJ, ?_, ?_⟩
  · show IsRangeIter _ _ _ _ _
    have e1 : (0 : Int) + ((0 : Nat) : Int) * 1 = 0 := by simp
    have e2 : (n : Int) - ((0 : Nat) : Int) = Builtin.Range.rangeSize 0 n 1 := by rw [rangeSize_one]; split <;> omega
    rw [e1, e2]
    exact Heap.get?_push_size _ rfl
  · intro b hb
    rw [List.mem_singleton.mp hb]
    show _ < (s.heap.push _).objs.size
    rw [Heap.size_push]; exact Nat.lt_succ_self _
  · intro h
    exact absurd F.ns.lt ((List.mem_singleton.mp h) ▸ Nat.lt_irrefl _)
  · intro b hb
    rw [List.mem_singleton.mp hb]; exact hI0
  · intro p hp hI
    exact absurd (low p hp) ((List.mem_singleton.mp hI) ▸ Nat.lt_irrefl _)
  · rintro i ys news₁ own C oC D m₂ h tk E' ⟨hi, ho, hst⟩ hyl hP hJi hown off hC hD hCD hN F₁ N₁
    obtain ⟨oI, hoI⟩ := ho _ (.head _) hI0 ⟨_, hst⟩
    have off' : ∀ p ∈ news₁, p.1 ≠ s.heap.objs.size ∧ p.1 ≠ C ∧ p.1 ≠ D := fun p hp => ⟨fun e => (off p hp).1 (List.mem_singleton.mpr e), (off p hp).2⟩
    have N₂ : News h₀ L h ((s.heap.objs.size, oI) :: (C, oC) :: (D, lst ys) :: news₁) := fun p hp => N₁ p (by
      simp only [List.mem_append, List.mem_cons, List.not_mem_nil, or_false] at hp ⊢
      rcases hp with h | h | h | h
      · exact .inl (.inl (h ▸ hoI))
      · exact .inl (.inr (.inl h))
      · exact .inl (.inr (.inr h))
      · exact .inr h)
    refine wpAny_mono (turn i ys news₁ _ oI C oC D m₂ h tk E' hi hJi off' hN F₁ N₂) ?_ fun _ _ e => e
    rintro v s₅ ⟨h', tk', nx', rfl, F', N', off₂, j⟩
    refine ⟨h', tk', nx', rfl, F', fun p hp => ?_, fun p hp => ⟨fun e => (off₂ p hp).1 (List.mem_singleton.mp e), (off₂ p hp).2⟩, j⟩
    rcases List.mem_append.mp hp with hp | hp
    · rcases List.mem_append.mp hp with hp | hp
      · have h1 := List.mem_singleton.mp (hown p hp)
        have h2 := (N₁ p (List.mem_append_left _ (List.mem_append_left _ hp))).1
        have h3 := (N₁ _ (List.mem_append_left _ (List.mem_append_left _ hoI))).1
        have h4 : p = (s.heap.objs.size, oI) := Prod.ext h1 (Option.some.inj (h2.symm.trans (h1 ▸ h3)))
        rw [h4]
        exact N' _ (.head _)
      · exact N' p (List.mem_append_left _ (.tail _ hp))
    · exact N' p (List.mem_append_right _ hp)
  · intro D h tk ys nx F' N' o1 j
    exact done D h tk ys nx j F' N' o1
/-- a name bound to a block -/
theorem comp_assign {elt tgt iter : Expr} {c : Option Expr} {xs : List Str} {scope : Scope} {cl : List (Str × Addr)} {pos spos : Pos} {y : Str} {py : Pos} {Q : Flow → Shared → Prop} (F₀ : Fr h₀ L s.heap m) (hLe : env.locals = L)
    (hsw : swapsWith (.ListComp elt [⟨tgt, iter, c.toList, 0⟩] scope pos) (some (.Name y py)) spos.line env = pure true)
    (hclos : closureFor scope env = pure cl) (hcell : ∀ y ∈ scope.names, y.2 ≠ .cell) (hkind : scope.kind = .function)
    (hnames : ∀ y ∈ scope.names, y.2 = .local → scope.names.lookup y.1 = some .local) (hxs : ∀ x ∈ xs, scope.names.lookup x = some .local)
    (hy : env.kindOf y = some .local) (hp : (env.scope.kind == .class || (env.scope.kind == .module && env.locals != env.globals)) = false)
    (h : wpAny (model prog w) A (eval iter env) (fun xv s₁ => wpAny (model prog w) A (pyIter xv) (fun it s₂ => CompAtU (fun D z => if z = y then some (.ref D) else m z) prog w A h₀ L m env elt tgt c xs scope cl (fun _ s' => Q .next s') it s₂) E s₁) E s)
    (hs : ∀ x, foldedSetIterable iter env x = pure x) :
    wpAny (model prog w) A (exec (.Assign [.Name y py] (.ListComp elt [⟨tgt, iter, c.toList, 0⟩] scope pos) spos) env) Q E s := by
  subst hLe
  rw [exec_Assign_Name_used _ _ _ _ hsw]
  refine wpAny_bind (wpAny_standAt (wpAny_bind ?_))
  show wpAny _ A (do let _ ← comprehension (.ListComp elt [⟨tgt, iter, c.toList, 0⟩] scope pos) scope env _ (newList []) false (eval iter env) (some (assign (.Name y py) env))) _ _ s
  refine wpAny_bind (wpAny_mono (wpAny_comprehension_free (use := some (assign (.Name y py) env)) (Q := fun _ s' => Q .next s') rfl hs hclos hkind hnames
    (wpAny_mono h (fun xv s₁ h₁ => wpAny_mono h₁ (fun it s₂ h₂ => ?_) fun _ _ e => e) fun _ _ e => e)) (fun _ s' hq => wpAny_pure (wpAny_pure hq)) fun _ _ e => e)
  obtain ⟨I, fp, wr, n, P, St, news, J, rfl, W, hsz, hst, hfp, F, N, hL, hwr, off, hJ, turn, done⟩ := h₂
  refine cblock J W hsz hcell hkind hxs hst hfp F N hL hwr off hJ turn ?_
  intro D C h tk m' ys news' F' N' o1 hn hC₀ hD₀ hCL hDL hCD offC hJ'
  show wpAny _ A (assign (.Name y py) env (.ref D)) _ _ _
  refine wpAny_assign_Name (wpAny_storeName_local hy F'.ns (fun h₂ hn₂ hs₂ => ?_) hp)
  have hL₀ : h₀.get? env.locals = none := Heap.get?_none_of_le F'.above
  have F₂ : Fr h₀ env.locals h₂ (fun z => if z = y then some (.ref D) else m z) := ⟨hn₂, fun b o e => hs₂.extBut b o (fun q => by rw [q, hL₀] at e; cases e) (F'.keep b o e), F'.above⟩
  refine ⟨m', hn.sameBut hs₂ hCL, fun h'' hs'' => done D h'' _ ys news' (F₂.change hs'' hCL hC₀) (fun p hp => ?_) o1 hJ'⟩
  have z : h₂.get? p.1 = some p.2 := hs₂.extBut _ _ (N' p hp).2.1 (N' p hp).1
  refine ⟨hs''.extBut _ _ ?_ z, (N' p hp).2⟩
  rcases List.mem_cons.mp hp with rfl | hp
  · exact Ne.symm hCD
  · exact offC p hp
end
end
-- KbD
theorem zz_KbD {prog : Program} {w : World} {A : Around} {env : Env} {E : Value → Shared → Prop} {s : Shared} {Q : Flow → Shared → Prop} (h : Q .next s) : wpAny (model prog w) A (execs [] env) Q E s := by
  k_with_none
  walk1
  exact h
section
theorem nonempty_one {c : Nat} : (({ cps := #[c] } : Str) != Str.ofString "") = true := by
  rw [bne_lst, nil_lst]; rfl
theorem kc_7aaf8633247 : True := by
  k_with_none
  k_with "call ref cons" => (k_here; first
    | ((with_reducible show wpAny _ _ (call (Value.ref 54) _) _ _ _); k_dflt (refine' TellV.use (tell_ordered ) ?k1 ?k2 ?k3 ?k4 ?k5 ?kK ?kd ?ku ?_; (case k1 => k_asm); (case k2 => k_asm); (case k3 => k_asm); (case k4 => k_asm); (case k5 => k_asm); (case kK => first | exact rfl | assumption); (case kd => first | exact room1 hd rfl | ktr_room); (case ku => first | exact room1 hu rfl | ktr_units); intro t9 h9 tk9 F9 N9; (try dsimp only); (try k_fold))))
  trivial
theorem tell_split_name {w : World} {x : Str} {t : Tok} {news : Led} (hx : x.length ≤ 4000) :
   TellN w 80 [.str x t] news 20 160 (PairO (ordL (splitN (Lst x)).1) (splitN (Lst x)).2) := by
  k_with "execs cons" => (k_here; with_reducible refine exs_cons fun _ => ?_; k_fold)
  have hst := split_start x
  k_with "exec While BoolOp cons nil" => k_while (fun _ letters name => 2 * letters.length + name.length = x.length ∧ splitN (Lst x) = (Lst letters ++ (splitN (Lst name)).1, (splitN (Lst name)).2)) (fun _ _ name => name.length) "letters" "name"
  k_with "state" => first | exact hst | exact split_turn (by assumption) (by assumption) (by assumption) (by assumption) (by assumption)
  k_with "measure" => exact cut_less (by assumption)
  have hfill : (PySem.Challenge.rw_np0049_01, hd.heap_39) = (PySem.Challenge.rw_np0049_01, hd.heap_39) := by k_fill; rfl
  clear hfill
  intro mean mg mb dp un gd cn cs a ccd cl outer A₀ base h₀ L m s Q E B F X N T hk hd hu hret
  refine wpAny_call ?_
  k_dflt (refine' code_defN ?k1 ?k2 ?k3 ?k4 ?k5 ?kA ?kF ?kK ?k6 ?k7 ?k8 ?k9 ?kB ?hl ?_ ?c2 ?c3 ?c4 ?c5; (case kA => exact rfl); (case kF => exact rfl); (case kK => assumption); (case k1 => k_asm); (case k2 => k_asm); (case k3 => k_asm); (case k4 => k_asm); (case k5 => k_asm); (case k6 => k_is); (case k7 => k_is); (case k8 => first | exact room0 hd | ktr_room); (case k9 => exact BindsTo.of_eq rfl); (case c5 => decide); (case kB => exact locs rfl); (case hl => first | exact (rfl : _ = [(_, _)]) | exact (rfl : _ = [(_, _), (_, _)]) | exact (rfl : _ = [(_, _), (_, _), (_, _)]) | exact rfl); (case c2 => exact rfl); (case c3 => exact rfl); (case c4 => exact rfl); k_whole; intro g' L' h' tkE FG' F' N' B' X' T'; (try dsimp only); (try k_lift B'); (try k_fold))
  (change let ev : Env := _; wpAny _ (Around.deeper _ ev) (execs _ ev) _ _ _)
  intro ev
  (change let Ax : Around := _; wpAny _ Ax (execs _ ev) _ _ _)
  intro Ax
  k_steps
  all_goals first
    | exact retN hret (by k_asm) (by k_asm) (by intro p hp; exact Nat.ne_of_lt ((by assumption : ∀ p ∈ news, p.1 < _) p hp)) (pairO (by rw [lst_Tx, split_end3 (by assumption) (by assumption)]) (by rw [split_end3 (by assumption) (by assumption)]))
    | exact retN hret (by k_asm) (by k_asm) (by intro p hp; exact Nat.ne_of_lt ((by assumption : ∀ p ∈ news, p.1 < _) p hp)) (pairO (by rw [lst_Tx, split_end2 (by assumption) (by assumption)]) (by rw [split_end2 (by assumption) (by assumption)]))
    | exact retN hret (by k_asm) (by k_asm) (by intro p hp; exact Nat.ne_of_lt ((by assumption : ∀ p ∈ news, p.1 < _) p hp)) (pairO (by rw [lst_Tx, split_end1 (by assumption) (by assumption)]) (by rw [split_end1 (by assumption) (by assumption)]))
theorem joinM {ls : List Nat} {ys : List Value} (h : StrsAre ys ((ls.map fun c => [c, 45]).map Tx)) : Txt.join (Str.ofString "") ((ls.map fun c => [c, 45]).map Tx) = Tx (ls.flatMap fun c => [c, 45]) := by
  rw [joinT0, List.flatMap_def]
theorem small_pairs (ls : List Nat) (h : ls.length ≤ 4000) : (((ls.map fun c => [c, 45]).map Tx).map (·.length)).sum + ((ls.map fun c => [c, 45]).map Tx).length * (Str.ofString "").length ≤ 16777216 := by
  have e : (Str.ofString "").length = 0 := by decide +kernel
  have key : (((ls.map fun c => [c, 45]).map Tx).map (·.length)).sum = 2 * ls.length := by
    clear h
    induction ls with
    | nil => rfl
    | cons a r ih => simp only [List.map_cons, List.sum_cons, T_len, List.length_cons, List.length_nil] at ih ⊢; omega
  rw [e, key]; omega
theorem ord_len (l : List Nat) : (ordL l).length ≤ 6 := by
  unfold ordL
  exact Nat.le_trans (List.length_filter_le _ _) (by decide)
theorem dash_step {i c : Nat} {l : List Nat} {ys : List Value} {t : Tok} (h : (Tx l).cps[i]? = some c) (hJ : StrsAre ys (((l.take i).map fun c => [c, 45]).map Tx)) : StrsAre (ys ++ [.str (({ cps := #[c] } : Str) ++ Str.ofString "-") t]) (((l.take (i + 1)).map fun c => [c, 45]).map Tx) := by
  have h' : l[i]? = some c := by simpa [Tx] using h
  rw [List.take_add_one, h', List.map_append]
  refine strs_snocT hJ ?_
  refine eq_T ?_
  rw [lst_app, dash_lst]; rfl
theorem joinM' {l : List Nat} {n : Nat} (hn : n = l.length) : Txt.join (Str.ofString "") (((l.take n).map fun c => [c, 45]).map Tx) = Tx (l.flatMap fun c => [c, 45]) := by
  subst hn; rw [List.take_length, joinT0, List.flatMap_def]
end
-- KbE
theorem zz_KbE {prog : Program} {w : World} {A : Around} {env : Env} {E : Value → Shared → Prop} {s : Shared} {Q : Flow → Shared → Prop} (h : Q .next s) : wpAny (model prog w) A (execs [] env) Q E s := by
  k_with_none
  walk1
  exact h
section
theorem kc_e7a276a6127 : True := by
  k_with_none
  k_with "call ref cons" => (k_here; first
    | ((with_reducible show wpAny _ _ (call (Value.ref 54) _) _ _ _); k_dflt (refine' TellV.use (tell_ordered ) ?k1 ?k2 ?k3 ?k4 ?k5 ?kK ?kd ?ku ?_; (case k1 => k_asm); (case k2 => k_asm); (case k3 => k_asm); (case k4 => k_asm); (case k5 => k_asm); (case kK => first | exact rfl | assumption); (case kd => first | exact room1 hd rfl | ktr_room); (case ku => first | exact room1 hu rfl | ktr_units); intro t9 h9 tk9 F9 N9; (try dsimp only); (try k_fold))))
  trivial
theorem tell_letters_text {w : World} {x : Str} {t : Tok} {news : Led} :
   TellV w 155 [.str x t] news 14 112 (fun t => .str (Tx (marksL (Lst x))) t) := by
  k_with "execs cons" => (k_here; with_reducible refine exs_cons fun _ => ?_; k_fold)
  k_with "eval ListComp" => (k_here; k_dflt (first | (refine' comp_evalN0 ?F ?k1 ?k2 ?k3 ?k4 ?k5 ?_ (by intro _; rfl); (case F => k_asm); (case k1 => first | rfl | with_unfolding_all rfl); (case k2 => decide); (case k3 => rfl); (case k4 => decide); (case k5 => rfl)) | (refine' comp_evalN1 ?F ?k1 ?k2 ?k3 ?k4 ?k5 ?_ (by intro _; rfl); (case F => k_asm); (case k1 => first | rfl | with_unfolding_all rfl); (case k2 => decide); (case k3 => rfl); (case k4 => decide); (case k5 => rfl)) | (refine' comp_evalP1 ?F ?k1 ?k2 ?k3 ?k4 ?k5 ?k6 ?_ (by intro _; rfl); (case F => k_asm); (case k1 => first | rfl | with_unfolding_all rfl); (case k2 => decide); (case k3 => rfl); (case k4 => decide); (case k5 => rfl); (case k6 => rfl))))
  have hfill : (PySem.Challenge.rw_np0049_01, hd.heap_39) = (PySem.Challenge.rw_np0049_01, hd.heap_39) := by k_fill; rfl
  clear hfill
  intro mean mg mb dp un gd cn cs a ccd cl outer A₀ base h₀ L m s Q E B F X N T hk hd hu hret
  refine wpAny_call ?_
  k_dflt (refine' code_defN ?k1 ?k2 ?k3 ?k4 ?k5 ?kA ?kF ?kK ?k6 ?k7 ?k8 ?k9 ?kB ?hl ?_ ?c2 ?c3 ?c4 ?c5; (case kA => exact rfl); (case kF => exact rfl); (case kK => assumption); (case k1 => k_asm); (case k2 => k_asm); (case k3 => k_asm); (case k4 => k_asm); (case k5 => k_asm); (case k6 => k_is); (case k7 => k_is); (case k8 => first | exact room0 hd | ktr_room); (case k9 => exact BindsTo.of_eq rfl); (case c5 => decide); (case kB => exact locs rfl); (case hl => first | exact (rfl : _ = [(_, _)]) | exact (rfl : _ = [(_, _), (_, _)]) | exact (rfl : _ = [(_, _), (_, _), (_, _)]) | exact rfl); (case c2 => exact rfl); (case c3 => exact rfl); (case c4 => exact rfl); k_whole; intro g' L' h' tkE FG' F' N' B' X' T'; (try dsimp only); (try k_lift B'); (try k_fold))
  (change let ev : Env := _; wpAny _ (Around.deeper _ ev) (execs _ ev) _ _ _)
  intro ev
  (change let Ax : Around := _; wpAny _ Ax (execs _ ev) _ _ _)
  intro Ax
  k_steps
  refine comp_str (fun i ys => StrsAre ys ((((ordL (Lst x)).take i).map fun c => [c, 45]).map Tx)) (by rfl) (by k_asm) (by k_asm) (by rw [T_len]; exact Nat.le_trans (ord_len _) (by decide +kernel)) (by exact StrsAre.nil) ?_ ?_
  · intro i cc u ys own C oC D m₂ h tk E' hcc hJ hN hm F9 N9
    dsimp only [CTest]
    k_steps
    exact TEnd.intro (by k_asm) (by k_asm) (fun _ h => h) (dash_step hcc hJ)
  · intro D h tk ys hJ F9 N9 o9
    k_steps
    refine join_list (N9.isList (.head _)) hJ ?_ ?_
    · exact small_pairs _ (by rw [List.length_take, T_len]; have := ord_len (Lst x); omega)
    intro t9 k9
    k_steps
    exact cb_retS hret (by rw [joinM' (by rw [T_len])]; rfl) (by k_asm) (cb_drop (by k_asm) (by kcj_all))
theorem tell_join_name {w : World} {x y : Str} {t u : Tok} {news : Led} (hy : y.length ≤ 4000) :
   TellV w 85 [.str x t, .str y u] news 14 112 (fun t => .str (Tx (marksL (Lst x) ++ Lst y)) t) := by
  k_with "execs cons" => (k_here; with_reducible refine exs_cons fun _ => ?_; k_fold)
  k_with "eval ListComp" => (k_here; k_dflt (first | (refine' comp_evalN0 ?F ?k1 ?k2 ?k3 ?k4 ?k5 ?_ (by intro _; rfl); (case F => k_asm); (case k1 => first | rfl | with_unfolding_all rfl); (case k2 => decide); (case k3 => rfl); (case k4 => decide); (case k5 => rfl)) | (refine' comp_evalN1 ?F ?k1 ?k2 ?k3 ?k4 ?k5 ?_ (by intro _; rfl); (case F => k_asm); (case k1 => first | rfl | with_unfolding_all rfl); (case k2 => decide); (case k3 => rfl); (case k4 => decide); (case k5 => rfl)) | (refine' comp_evalP1 ?F ?k1 ?k2 ?k3 ?k4 ?k5 ?k6 ?_ (by intro _; rfl); (case F => k_asm); (case k1 => first | rfl | with_unfolding_all rfl); (case k2 => decide); (case k3 => rfl); (case k4 => decide); (case k5 => rfl); (case k6 => rfl))))
  have hfill : (PySem.Challenge.rw_np0049_01, hd.heap_39) = (PySem.Challenge.rw_np0049_01, hd.heap_39) := by k_fill; rfl
  clear hfill
  intro mean mg mb dp un gd cn cs a ccd cl outer A₀ base h₀ L m s Q E B F X N T hk hd hu hret
  refine wpAny_call ?_
  k_dflt (refine' code_defN ?k1 ?k2 ?k3 ?k4 ?k5 ?kA ?kF ?kK ?k6 ?k7 ?k8 ?k9 ?kB ?hl ?_ ?c2 ?c3 ?c4 ?c5; (case kA => exact rfl); (case kF => exact rfl); (case kK => assumption); (case k1 => k_asm); (case k2 => k_asm); (case k3 => k_asm); (case k4 => k_asm); (case k5 => k_asm); (case k6 => k_is); (case k7 => k_is); (case k8 => first | exact room0 hd | ktr_room); (case k9 => exact BindsTo.of_eq rfl); (case c5 => decide); (case kB => exact locs rfl); (case hl => first | exact (rfl : _ = [(_, _)]) | exact (rfl : _ = [(_, _), (_, _)]) | exact (rfl : _ = [(_, _), (_, _), (_, _)]) | exact rfl); (case c2 => exact rfl); (case c3 => exact rfl); (case c4 => exact rfl); k_whole; intro g' L' h' tkE FG' F' N' B' X' T'; (try dsimp only); (try k_lift B'); (try k_fold))
  (change let ev : Env := _; wpAny _ (Around.deeper _ ev) (execs _ ev) _ _ _)
  intro ev
  (change let Ax : Around := _; wpAny _ Ax (execs _ ev) _ _ _)
  intro Ax
  k_steps
  refine comp_str (fun i ys => StrsAre ys ((((ordL (Lst x)).take i).map fun c => [c, 45]).map Tx)) (by rfl) (by k_asm) (by k_asm) (by rw [T_len]; exact Nat.le_trans (ord_len _) (by decide +kernel)) (by exact StrsAre.nil) ?_ ?_
  · intro i cc u ys own C oC D m₂ h tk E' hcc hJ hN hm F9 N9
    dsimp only [CTest]
    k_steps
    exact TEnd.intro (by k_asm) (by k_asm) (fun _ h => h) (dash_step hcc hJ)
  · intro D h tk ys hJ F9 N9 o9
    k_steps
    refine join_list (N9.isList (.head _)) hJ ?_ ?_
    · exact small_pairs _ (by rw [List.length_take, T_len]; have := ord_len (Lst x); omega)
    intro t9 k9
    have ej : Txt.join (Str.ofString "") ((((ordL (Lst x)).take (Tx (ordL (Lst x))).length).map fun c => [c, 45]).map Tx) = Tx (marksL (Lst x)) := by rw [joinM' (by rw [T_len])]; rfl
    rw [ej]
    have hml : (Tx (marksL (Lst x))).length ≤ 12 := by
      rw [T_len]; unfold marksL
      have := ord_len (Lst x)
      rw [List.length_flatMap]
      have : ((ordL (Lst x)).map fun a => [a, 45].length).sum = 2 * (ordL (Lst x)).length := by
        generalize ordL (Lst x) = l
        induction l with
        | nil => rfl
        | cons a r ih => simp only [List.map_cons, List.sum_cons, List.length_cons, List.length_nil] at ih ⊢; omega
      omega
    k_steps
    exact cb_retS hret (eq_T (by rw [lst_app, lst_Tx])) (by k_asm) (cb_drop (by k_asm) (by kcj_all))
theorem tell_code_text {w : World} {c : Int} {t : Tok} {news : Led} (h0 : 0 ≤ c) (h1 : c ≤ 1114111) :
   TellV w 169 [.int c t] news 2 16 (fun t => .str (Tx (codeText c)) t) := by
  k_with "execs cons" => (k_here; with_reducible refine exs_cons fun _ => ?_; k_fold)
  k_with "eval ListComp" => (k_here; k_dflt (first | (refine' comp_evalN0 ?F ?k1 ?k2 ?k3 ?k4 ?k5 ?_ (by intro _; rfl); (case F => k_asm); (case k1 => first | rfl | with_unfolding_all rfl); (case k2 => decide); (case k3 => rfl); (case k4 => decide); (case k5 => rfl)) | (refine' comp_evalN1 ?F ?k1 ?k2 ?k3 ?k4 ?k5 ?_ (by intro _; rfl); (case F => k_asm); (case k1 => first | rfl | with_unfolding_all rfl); (case k2 => decide); (case k3 => rfl); (case k4 => decide); (case k5 => rfl)) | (refine' comp_evalP1 ?F ?k1 ?k2 ?k3 ?k4 ?k5 ?k6 ?_ (by intro _; rfl); (case F => k_asm); (case k1 => first | rfl | with_unfolding_all rfl); (case k2 => decide); (case k3 => rfl); (case k4 => decide); (case k5 => rfl); (case k6 => rfl))))
  have hfill : (PySem.Challenge.rw_np0049_01, hd.heap_39) = (PySem.Challenge.rw_np0049_01, hd.heap_39) := by k_fill; rfl
  clear hfill
  intro mean mg mb dp un gd cn cs a ccd cl outer A₀ base h₀ L m s Q E B F X N T hk hd hu hret
  refine wpAny_call ?_
  k_dflt (refine' code_defN ?k1 ?k2 ?k3 ?k4 ?k5 ?kA ?kF ?kK ?k6 ?k7 ?k8 ?k9 ?kB ?hl ?_ ?c2 ?c3 ?c4 ?c5; (case kA => exact rfl); (case kF => exact rfl); (case kK => assumption); (case k1 => k_asm); (case k2 => k_asm); (case k3 => k_asm); (case k4 => k_asm); (case k5 => k_asm); (case k6 => k_is); (case k7 => k_is); (case k8 => first | exact room0 hd | ktr_room); (case k9 => exact BindsTo.of_eq rfl); (case c5 => decide); (case kB => exact locs rfl); (case hl => first | exact (rfl : _ = [(_, _)]) | exact (rfl : _ = [(_, _), (_, _)]) | exact (rfl : _ = [(_, _), (_, _), (_, _)]) | exact rfl); (case c2 => exact rfl); (case c3 => exact rfl); (case c4 => exact rfl); k_whole; intro g' L' h' tkE FG' F' N' B' X' T'; (try dsimp only); (try k_lift B'); (try k_fold))
  (change let ev : Env := _; wpAny _ (Around.deeper _ ev) (execs _ ev) _ _ _)
  intro ev
  (change let Ax : Around := _; wpAny _ Ax (execs _ ev) _ _ _)
  intro Ax
  k_steps
  all_goals (refine cb_retS hret (eq_T ?_) (by k_asm) (by k_asm); unfold codeText; first | (subst_vars; decide +kernel) | (simp only [*, if_false]; rfl))
theorem tell_control_letter {w : World} {c : Int} {t : Tok} {news : Led} (h0 : 0 ≤ c) (h1 : c ≤ 31) :
   TellV w 162 [.int c t] news 2 16 (fun t => .str (Tx (controlLetter c)) t) := by
  k_with "execs cons" => (k_here; with_reducible refine exs_cons fun _ => ?_; k_fold)
  k_with "eval ListComp" => (k_here; k_dflt (first | (refine' comp_evalN0 ?F ?k1 ?k2 ?k3 ?k4 ?k5 ?_ (by intro _; rfl); (case F => k_asm); (case k1 => first | rfl | with_unfolding_all rfl); (case k2 => decide); (case k3 => rfl); (case k4 => decide); (case k5 => rfl)) | (refine' comp_evalN1 ?F ?k1 ?k2 ?k3 ?k4 ?k5 ?_ (by intro _; rfl); (case F => k_asm); (case k1 => first | rfl | with_unfolding_all rfl); (case k2 => decide); (case k3 => rfl); (case k4 => decide); (case k5 => rfl)) | (refine' comp_evalP1 ?F ?k1 ?k2 ?k3 ?k4 ?k5 ?k6 ?_ (by intro _; rfl); (case F => k_asm); (case k1 => first | rfl | with_unfolding_all rfl); (case k2 => decide); (case k3 => rfl); (case k4 => decide); (case k5 => rfl); (case k6 => rfl))))
  have hfill : (PySem.Challenge.rw_np0049_01, hd.heap_39) = (PySem.Challenge.rw_np0049_01, hd.heap_39) := by k_fill; rfl
  clear hfill
  intro mean mg mb dp un gd cn cs a ccd cl outer A₀ base h₀ L m s Q E B F X N T hk hd hu hret
  refine wpAny_call ?_
  k_dflt (refine' code_defN ?k1 ?k2 ?k3 ?k4 ?k5 ?kA ?kF ?kK ?k6 ?k7 ?k8 ?k9 ?kB ?hl ?_ ?c2 ?c3 ?c4 ?c5; (case kA => exact rfl); (case kF => exact rfl); (case kK => assumption); (case k1 => k_asm); (case k2 => k_asm); (case k3 => k_asm); (case k4 => k_asm); (case k5 => k_asm); (case k6 => k_is); (case k7 => k_is); (case k8 => first | exact room0 hd | ktr_room); (case k9 => exact BindsTo.of_eq rfl); (case c5 => decide); (case kB => exact locs rfl); (case hl => first | exact (rfl : _ = [(_, _)]) | exact (rfl : _ = [(_, _), (_, _)]) | exact (rfl : _ = [(_, _), (_, _), (_, _)]) | exact rfl); (case c2 => exact rfl); (case c3 => exact rfl); (case c4 => exact rfl); k_whole; intro g' L' h' tkE FG' F' N' B' X' T'; (try dsimp only); (try k_lift B'); (try k_fold))
  (change let ev : Env := _; wpAny _ (Around.deeper _ ev) (execs _ ev) _ _ _)
  intro ev
  (change let Ax : Around := _; wpAny _ Ax (execs _ ev) _ _ _)
  intro Ax
  k_steps
  all_goals (refine cb_retS hret (eq_T ?_) (by k_asm) (by k_asm); unfold controlLetter; first | (rw [if_pos (by omega)]; rfl) | (rw [if_neg (by omega)]; rfl))
theorem tell_is_command_word {w : World} {x : Str} {t : Tok} {news : Led} (hx : x.length ≤ 4000) :
   TellV w 247 [.str x t] news 2 16 (fun _ => .bool (isCommand (Lst x))) := by
  k_with "execs cons" => (k_here; with_reducible refine exs_cons fun _ => ?_; k_fold)
  k_with "eval ListComp" => (k_here; k_dflt (first | (refine' comp_evalN0 ?F ?k1 ?k2 ?k3 ?k4 ?k5 ?_ (by intro _; rfl); (case F => k_asm); (case k1 => first | rfl | with_unfolding_all rfl); (case k2 => decide); (case k3 => rfl); (case k4 => decide); (case k5 => rfl)) | (refine' comp_evalN1 ?F ?k1 ?k2 ?k3 ?k4 ?k5 ?_ (by intro _; rfl); (case F => k_asm); (case k1 => first | rfl | with_unfolding_all rfl); (case k2 => decide); (case k3 => rfl); (case k4 => decide); (case k5 => rfl)) | (refine' comp_evalP1 ?F ?k1 ?k2 ?k3 ?k4 ?k5 ?k6 ?_ (by intro _; rfl); (case F => k_asm); (case k1 => first | rfl | with_unfolding_all rfl); (case k2 => decide); (case k3 => rfl); (case k4 => decide); (case k5 => rfl); (case k6 => rfl))))
  have hfill : (PySem.Challenge.rw_np0049_01, hd.heap_39) = (PySem.Challenge.rw_np0049_01, hd.heap_39) := by k_fill; rfl
  clear hfill
  intro mean mg mb dp un gd cn cs a ccd cl outer A₀ base h₀ L m s Q E B F X N T hk hd hu hret
  refine wpAny_call ?_
  k_dflt (refine' code_defN ?k1 ?k2 ?k3 ?k4 ?k5 ?kA ?kF ?kK ?k6 ?k7 ?k8 ?k9 ?kB ?hl ?_ ?c2 ?c3 ?c4 ?c5; (case kA => exact rfl); (case kF => exact rfl); (case kK => assumption); (case k1 => k_asm); (case k2 => k_asm); (case k3 => k_asm); (case k4 => k_asm); (case k5 => k_asm); (case k6 => k_is); (case k7 => k_is); (case k8 => first | exact room0 hd | ktr_room); (case k9 => exact BindsTo.of_eq rfl); (case c5 => decide); (case kB => exact locs rfl); (case hl => first | exact (rfl : _ = [(_, _)]) | exact (rfl : _ = [(_, _), (_, _)]) | exact (rfl : _ = [(_, _), (_, _), (_, _)]) | exact rfl); (case c2 => exact rfl); (case c3 => exact rfl); (case c4 => exact rfl); k_whole; intro g' L' h' tkE FG' F' N' B' X' T'; (try dsimp only); (try k_lift B'); (try k_fold))
  (change let ev : Env := _; wpAny _ (Around.deeper _ ev) (execs _ ev) _ _ _)
  intro ev
  (change let Ax : Around := _; wpAny _ Ax (execs _ ev) _ _ _)
  intro Ax
  k_steps
  all_goals (refine cb_retB hret ?_ (by k_asm) (by k_asm); first | exact cmd1 (by assumption) (by assumption) | exact cmd2 (by assumption) | exact cmd3 (by assumption))
theorem tell_is_angled {w : World} {x : Str} {t : Tok} {news : Led} (hx : x.length ≤ 4000) :
   TellV w 254 [.str x t] news 2 16 (fun _ => .bool (isAngled (Lst x))) := by
  k_with "execs cons" => (k_here; with_reducible refine exs_cons fun _ => ?_; k_fold)
  k_with "eval ListComp" => (k_here; k_dflt (first | (refine' comp_evalN0 ?F ?k1 ?k2 ?k3 ?k4 ?k5 ?_ (by intro _; rfl); (case F => k_asm); (case k1 => first | rfl | with_unfolding_all rfl); (case k2 => decide); (case k3 => rfl); (case k4 => decide); (case k5 => rfl)) | (refine' comp_evalN1 ?F ?k1 ?k2 ?k3 ?k4 ?k5 ?_ (by intro _; rfl); (case F => k_asm); (case k1 => first | rfl | with_unfolding_all rfl); (case k2 => decide); (case k3 => rfl); (case k4 => decide); (case k5 => rfl)) | (refine' comp_evalP1 ?F ?k1 ?k2 ?k3 ?k4 ?k5 ?k6 ?_ (by intro _; rfl); (case F => k_asm); (case k1 => first | rfl | with_unfolding_all rfl); (case k2 => decide); (case k3 => rfl); (case k4 => decide); (case k5 => rfl); (case k6 => rfl))))
  have hfill : (PySem.Challenge.rw_np0049_01, hd.heap_39) = (PySem.Challenge.rw_np0049_01, hd.heap_39) := by k_fill; rfl
  clear hfill
  intro mean mg mb dp un gd cn cs a ccd cl outer A₀ base h₀ L m s Q E B F X N T hk hd hu hret
  refine wpAny_call ?_
  k_dflt (refine' code_defN ?k1 ?k2 ?k3 ?k4 ?k5 ?kA ?kF ?kK ?k6 ?k7 ?k8 ?k9 ?kB ?hl ?_ ?c2 ?c3 ?c4 ?c5; (case kA => exact rfl); (case kF => exact rfl); (case kK => assumption); (case k1 => k_asm); (case k2 => k_asm); (case k3 => k_asm); (case k4 => k_asm); (case k5 => k_asm); (case k6 => k_is); (case k7 => k_is); (case k8 => first | exact room0 hd | ktr_room); (case k9 => exact BindsTo.of_eq rfl); (case c5 => decide); (case kB => exact locs rfl); (case hl => first | exact (rfl : _ = [(_, _)]) | exact (rfl : _ = [(_, _), (_, _)]) | exact (rfl : _ = [(_, _), (_, _), (_, _)]) | exact rfl); (case c2 => exact rfl); (case c3 => exact rfl); (case c4 => exact rfl); k_whole; intro g' L' h' tkE FG' F' N' B' X' T'; (try dsimp only); (try k_lift B'); (try k_fold))
  (change let ev : Env := _; wpAny _ (Around.deeper _ ev) (execs _ ev) _ _ _)
  intro ev
  (change let Ax : Around := _; wpAny _ Ax (execs _ ev) _ _ _)
  intro Ax
  k_steps
  all_goals (refine cb_retB hret ?_ (by k_asm) (by k_asm); first | exact ang1 (by assumption) (by assumption) | exact ang2 (by assumption) (by assumption) | exact ang3 (by assumption))
theorem sign_step {x : Str} {i c : Nat} {ys : List Value} {t : Tok} (h : x.cps[i]? = some c) (hJ : KeysAre ys (plainKeys ((Lst x).take i))) : KeysAre (ys ++ [.int (c : Int) t]) (plainKeys ((Lst x).take (i + 1))) := by
  have h' : (Lst x)[i]? = some c := by rw [← h, Lst, Array.getElem?_toList]
  rw [List.take_add_one, h']
  unfold plainKeys at hJ ⊢
  rw [List.map_append]
  exact hJ.append (.cons ⟨t, rfl⟩ .nil)
theorem tell_plain_signs {w : World} {x : Str} {t : Tok} {news : Led} (hx : x.length ≤ 4000) :
   TellN w 259 [.str x t] news 3 24 (KListO (plainKeys (Lst x))) := by
  k_with "execs cons" => (k_here; with_reducible refine exs_cons fun _ => ?_; k_fold)
  k_with "eval ListComp" => (k_here; k_dflt (first | (refine' comp_evalN0 ?F ?k1 ?k2 ?k3 ?k4 ?k5 ?_ (by intro _; rfl); (case F => k_asm); (case k1 => first | rfl | with_unfolding_all rfl); (case k2 => decide); (case k3 => rfl); (case k4 => decide); (case k5 => rfl)) | (refine' comp_evalN1 ?F ?k1 ?k2 ?k3 ?k4 ?k5 ?_ (by intro _; rfl); (case F => k_asm); (case k1 => first | rfl | with_unfolding_all rfl); (case k2 => decide); (case k3 => rfl); (case k4 => decide); (case k5 => rfl)) | (refine' comp_evalP1 ?F ?k1 ?k2 ?k3 ?k4 ?k5 ?k6 ?_ (by intro _; rfl); (case F => k_asm); (case k1 => first | rfl | with_unfolding_all rfl); (case k2 => decide); (case k3 => rfl); (case k4 => decide); (case k5 => rfl); (case k6 => rfl))))
  have hfill : (PySem.Challenge.rw_np0049_01, hd.heap_39) = (PySem.Challenge.rw_np0049_01, hd.heap_39) := by k_fill; rfl
  clear hfill
  intro mean mg mb dp un gd cn cs a ccd cl outer A₀ base h₀ L m s Q E B F X N T hk hd hu hret
  refine wpAny_call ?_
  k_dflt (refine' code_defN ?k1 ?k2 ?k3 ?k4 ?k5 ?kA ?kF ?kK ?k6 ?k7 ?k8 ?k9 ?kB ?hl ?_ ?c2 ?c3 ?c4 ?c5; (case kA => exact rfl); (case kF => exact rfl); (case kK => assumption); (case k1 => k_asm); (case k2 => k_asm); (case k3 => k_asm); (case k4 => k_asm); (case k5 => k_asm); (case k6 => k_is); (case k7 => k_is); (case k8 => first | exact room0 hd | ktr_room); (case k9 => exact BindsTo.of_eq rfl); (case c5 => decide); (case kB => exact locs rfl); (case hl => first | exact (rfl : _ = [(_, _)]) | exact (rfl : _ = [(_, _), (_, _)]) | exact (rfl : _ = [(_, _), (_, _), (_, _)]) | exact rfl); (case c2 => exact rfl); (case c3 => exact rfl); (case c4 => exact rfl); k_whole; intro g' L' h' tkE FG' F' N' B' X' T'; (try dsimp only); (try k_lift B'); (try k_fold))
  (change let ev : Env := _; wpAny _ (Around.deeper _ ev) (execs _ ev) _ _ _)
  intro ev
  (change let Ax : Around := _; wpAny _ Ax (execs _ ev) _ _ _)
  intro Ax
  k_steps
  refine comp_str (fun i ys => KeysAre ys (plainKeys ((Lst x).take i))) (by rfl) (by k_asm) (by k_asm) (by exact Nat.le_trans hx (by decide +kernel)) (by exact .nil) ?_ ?_
  · intro i cc u ys own C oC D m₂ h tk E' hcc hJ hN hm F9 N9
    dsimp only [CTest]
    k_steps
    exact TEnd.intro (by k_asm) (by k_asm) (fun _ h => h) (sign_step hcc hJ)
  · intro D h tk ys hJ F9 N9 o9
    k_steps
    exact retN hret (by k_asm) (by k_asm) o9 ⟨ys, ys.length, by rw [lst_len, ← lst_len, lst_len, List.take_length] at hJ; exact hJ, rfl⟩
end
-- KbF
theorem zz_KbF {prog : Program} {w : World} {A : Around} {env : Env} {E : Value → Shared → Prop} {s : Shared} {Q : Flow → Shared → Prop} (h : Q .next s) : wpAny (model prog w) A (execs [] env) Q E s := by
  k_with_none
  walk1
  exact h
section
theorem ord_mem {l : List Nat} {n : Nat} {pre post : List Int} (h : KStt.codes (Tx (ordL l)) = pre ++ (n : Int) :: post) : n ∈ modL := by
  have : (n : Int) ∈ KStt.codes (Tx (ordL l)) := by rw [h]; simp
  unfold KStt.codes Tx at this
  obtain ⟨c, hc, e⟩ := List.mem_map.mp this
  have : c = n := by omega
  subst this
  have hc' : c ∈ ordL l := by simpa using hc
  exact (List.mem_filter.mp hc').1
theorem codes_nat (l : List Nat) : (KStt.codes (Tx l)).map Int.toNat = l := by
  unfold KStt.codes Tx
  rw [List.map_map]
  simp only [List.map_map]
  exact (List.map_congr_left (g := _root_.id) fun c _ => Int.toNat_natCast c).trans (List.map_id _)
theorem base_start (e : Int) : e = (([] : List Int).map Int.toNat).foldl withL e := rfl
theorem base_turn {pre : List Int} {n : Nat} {b e : Int} (h : b = (pre.map Int.toNat).foldl withL e) : withL b n = ((pre ++ [(n : Int)]).map Int.toNat).foldl withL e := by
  rw [List.map_append, List.foldl_append, ← h]; rfl
theorem base_done {b e : Int} {l : List Nat} (q : b = ((KStt.codes (Tx l)).map Int.toNat).foldl withL e) : b = l.foldl withL e := by rw [codes_nat] at q; exact q
theorem split_len : ∀ l : List Nat, (splitN l).2.length ≤ l.length
  | [] => Nat.le_refl _
  | [_] => Nat.le_refl _
  | [_, _] => Nat.le_refl _
  | a :: b :: c :: r => by
    rw [splitN]
    split
    · have := split_len (c :: r)
      simp only [List.length_cons] at this ⊢; omega
    · exact Nat.le_refl _
theorem kc_3ada9f61556 : True := by
  k_with_none
  k_with "call ref cons" => (k_here; first
    | ((with_reducible show wpAny _ _ (call (Value.ref 106) _) _ _ _); k_dflt (refine' TellV.use (tell_with_control ) ?k1 ?k2 ?k3 ?k4 ?k5 ?kK ?kd ?ku ?_; (case k1 => k_asm); (case k2 => k_asm); (case k3 => k_asm); (case k4 => k_asm); (case k5 => k_asm); (case kK => first | exact rfl | assumption); (case kd => first | exact room1 hd rfl | ktr_room); (case ku => first | exact room1 hu rfl | ktr_units); intro t9 h9 tk9 F9 N9; (try dsimp only); (try k_fold)))
    | ((with_reducible show wpAny _ _ (call (Value.ref 61) _) _ _ _); k_dflt (refine' TellV.use (tell_code_of ) ?k1 ?k2 ?k3 ?k4 ?k5 ?kK ?kd ?ku ?_; (case k1 => k_asm); (case k2 => k_asm); (case k3 => k_asm); (case k4 => k_asm); (case k5 => k_asm); (case kK => first | exact rfl | assumption); (case kd => first | exact room1 hd rfl | ktr_room); (case ku => first | exact room1 hu rfl | ktr_units); intro t9 h9 tk9 F9 N9; (try dsimp only); (try k_fold)))
    | ((with_reducible show wpAny _ _ (call (Value.ref 42) _) _ _ _); k_dflt (refine' TellV.use (tell_is_sign_int ) ?k1 ?k2 ?k3 ?k4 ?k5 ?kK ?kd ?ku ?_; (case k1 => k_asm); (case k2 => k_asm); (case k3 => k_asm); (case k4 => k_asm); (case k5 => k_asm); (case kK => first | exact rfl | assumption); (case kd => first | exact room1 hd rfl | ktr_room); (case ku => first | exact room1 hu rfl | ktr_units); intro t9 h9 tk9 F9 N9; (try dsimp only); (try k_fold)))
    | ((with_reducible show wpAny _ _ (call (Value.ref 42) _) _ _ _); k_dflt (refine' TellV.use (tell_is_sign_str ) ?k1 ?k2 ?k3 ?k4 ?k5 ?kK ?kd ?ku ?_; (case k1 => k_asm); (case k2 => k_asm); (case k3 => k_asm); (case k4 => k_asm); (case k5 => k_asm); (case kK => first | exact rfl | assumption); (case kd => first | exact room1 hd rfl | ktr_room); (case ku => first | exact room1 hu rfl | ktr_units); intro t9 h9 tk9 F9 N9; (try dsimp only); (try k_fold)))
    | ((with_reducible show wpAny _ _ (call (Value.ref 54) _) _ _ _); k_dflt (refine' TellV.use (tell_ordered ) ?k1 ?k2 ?k3 ?k4 ?k5 ?kK ?kd ?ku ?_; (case k1 => k_asm); (case k2 => k_asm); (case k3 => k_asm); (case k4 => k_asm); (case k5 => k_asm); (case kK => first | exact rfl | assumption); (case kd => first | exact room1 hd rfl | ktr_room); (case ku => first | exact room1 hu rfl | ktr_units); intro t9 h9 tk9 F9 N9; (try dsimp only); (try k_fold)))
    | ((with_reducible show wpAny _ _ (call (Value.ref 80) _) _ _ _); k_dflt (refine' TellN.use1 (tell_split_name (by omega)) ?k1 ?k2 ?k3 ?k4 ?k5 ?kK ?kd ?ku ?_; (case k1 => k_asm); (case k2 => k_asm); (case k3 => k_asm); (case k4 => k_asm); (case k5 => k_asm); (case kK => first | exact rfl | assumption); (case kd => first | exact room1 hd rfl | ktr_room); (case ku => first | exact room1 hu rfl | ktr_units); intro D9 t9 u9 h9 tk9 F9 N9 l9; (try dsimp only); (try k_fold)))
    | ((with_reducible show wpAny _ _ (call (Value.ref 85) _) _ _ _); k_dflt (refine' TellV.use (tell_join_name (by omega)) ?k1 ?k2 ?k3 ?k4 ?k5 ?kK ?kd ?ku ?_; (case k1 => k_asm); (case k2 => k_asm); (case k3 => k_asm); (case k4 => k_asm); (case k5 => k_asm); (case kK => first | exact rfl | assumption); (case kd => first | exact room1 hd rfl | ktr_room); (case ku => first | exact room1 hu rfl | ktr_units); intro t9 h9 tk9 F9 N9; (try dsimp only); (try k_fold)))
    | ((with_reducible show wpAny _ _ (call (Value.ref 113) _) _ _ _); k_dflt (refine' TellV.use (tell_with_letter (by exact ord_mem (by assumption))) ?k1 ?k2 ?k3 ?k4 ?k5 ?kK ?kd ?ku ?_; (case k1 => k_asm); (case k2 => k_asm); (case k3 => k_asm); (case k4 => k_asm); (case k5 => k_asm); (case kK => first | exact rfl | assumption); (case kd => first | exact room1 hd rfl | ktr_room); (case ku => first | exact room1 hu rfl | ktr_units); intro t9 h9 tk9 F9 N9; (try dsimp only); (try k_fold))))
  trivial
theorem tell_caret_code {w : World} {c : Nat} {t : Tok} {news : Led} :
   TellV w 273 [.str ⟨#[c]⟩ t] news 3 24 (fun t => .int (caretCode c) t) := by
  k_with "execs cons" => (k_here; with_reducible refine exs_cons fun _ => ?_; k_fold)
  have hq : (({ cps := #[c] } : Str) == Str.ofString "?") = decide (c = 63) := one_beq (by decide +kernel)
  have hfill : (PySem.Challenge.rw_np0049_01, hd.heap_39) = (PySem.Challenge.rw_np0049_01, hd.heap_39) := by k_fill; rfl
  clear hfill
  intro mean mg mb dp un gd cn cs a ccd cl outer A₀ base h₀ L m s Q E B F X N T hk hd hu hret
  refine wpAny_call ?_
  k_dflt (refine' code_defN ?k1 ?k2 ?k3 ?k4 ?k5 ?kA ?kF ?kK ?k6 ?k7 ?k8 ?k9 ?kB ?hl ?_ ?c2 ?c3 ?c4 ?c5; (case kA => exact rfl); (case kF => exact rfl); (case kK => assumption); (case k1 => k_asm); (case k2 => k_asm); (case k3 => k_asm); (case k4 => k_asm); (case k5 => k_asm); (case k6 => k_is); (case k7 => k_is); (case k8 => first | exact room0 hd | ktr_room); (case k9 => exact BindsTo.of_eq rfl); (case c5 => decide); (case kB => exact locs rfl); (case hl => first | exact (rfl : _ = [(_, _)]) | exact (rfl : _ = [(_, _), (_, _)]) | exact (rfl : _ = [(_, _), (_, _), (_, _)]) | exact rfl); (case c2 => exact rfl); (case c3 => exact rfl); (case c4 => exact rfl); k_whole; intro g' L' h' tkE FG' F' N' B' X' T'; (try dsimp only); (try k_lift B'); (try k_fold))
  (change let ev : Env := _; wpAny _ (Around.deeper _ ev) (execs _ ev) _ _ _)
  intro ev
  (change let Ax : Around := _; wpAny _ Ax (execs _ ev) _ _ _)
  intro Ax
  k_steps
  · refine cb_retI hret ?_ (by k_asm) (by k_asm)
    have q := hq.symm.trans (by assumption)
    unfold caretCode
    rw [if_pos (of_decide_eq_true q)]
  · refine cb_retI hret ?_ (by k_asm) (by k_asm)
    have q := hq.symm.trans (by assumption)
    unfold caretCode
    rw [if_neg (of_decide_eq_false q)]
theorem tell_make_event_int {w : World} {e : Int} {ls : Str} {t u : Tok} {news : Led} :
   TellV w 120 [.int e t, .str ls u] news 14 112 (fun t => .int ((ordL (Lst ls)).foldl withL e) t) := by
  k_with "execs cons" => (k_here; with_reducible refine exs_cons fun _ => ?_; k_fold)
  k_with "pyIter str" => k_state (fun pre base => base = (pre.map Int.toNat).foldl withL e) "base"
  k_with "state" => first | exact base_start e | exact base_turn (by assumption)
  have hfill : (PySem.Challenge.rw_np0049_01, hd.heap_39) = (PySem.Challenge.rw_np0049_01, hd.heap_39) := by k_fill; rfl
  clear hfill
  intro mean mg mb dp un gd cn cs a ccd cl outer A₀ base h₀ L m s Q E B F X N T hk hd hu hret
  refine wpAny_call ?_
  k_dflt (refine' code_defN ?k1 ?k2 ?k3 ?k4 ?k5 ?kA ?kF ?kK ?k6 ?k7 ?k8 ?k9 ?kB ?hl ?_ ?c2 ?c3 ?c4 ?c5; (case kA => exact rfl); (case kF => exact rfl); (case kK => assumption); (case k1 => k_asm); (case k2 => k_asm); (case k3 => k_asm); (case k4 => k_asm); (case k5 => k_asm); (case k6 => k_is); (case k7 => k_is); (case k8 => first | exact room0 hd | ktr_room); (case k9 => exact BindsTo.of_eq rfl); (case c5 => decide); (case kB => exact locs rfl); (case hl => first | exact (rfl : _ = [(_, _)]) | exact (rfl : _ = [(_, _), (_, _)]) | exact (rfl : _ = [(_, _), (_, _), (_, _)]) | exact rfl); (case c2 => exact rfl); (case c3 => exact rfl); (case c4 => exact rfl); k_whole; intro g' L' h' tkE FG' F' N' B' X' T'; (try dsimp only); (try k_lift B'); (try k_fold))
  (change let ev : Env := _; wpAny _ (Around.deeper _ ev) (execs _ ev) _ _ _)
  intro ev
  (change let Ax : Around := _; wpAny _ Ax (execs _ ev) _ _ _)
  intro Ax
  k_steps
  exact cb_retI hret (base_done (by assumption)) (by k_asm) (by k_asm)
theorem tell_make_event_str {w : World} {x : Str} {ls : Str} {t u : Tok} {news : Led} (hx : x.length ≤ 4000) (hl : ls.length ≤ 4000) :
   TellV w 120 [.str x t, .str ls u] news 40 320 (fun t => .str (Tx (marksL (ordL (splitN (Lst x)).1 ++ Lst ls) ++ (splitN (Lst x)).2)) t) := by
  k_with "execs cons" => (k_here; with_reducible refine exs_cons fun _ => ?_; k_fold)
  have q1 : (Tx (ordL (splitN (Lst x)).1)).length ≤ 6 := by rw [T_len]; exact ord_len _
  have q2 : (Tx (splitN (Lst x)).2).length ≤ 4000 := by rw [T_len]; have := split_len (Lst x); rw [lst_len] at hx; omega
  have hfill : (PySem.Challenge.rw_np0049_01, hd.heap_39) = (PySem.Challenge.rw_np0049_01, hd.heap_39) := by k_fill; rfl
  clear hfill
  intro mean mg mb dp un gd cn cs a ccd cl outer A₀ base h₀ L m s Q E B F X N T hk hd hu hret
  refine wpAny_call ?_
  k_dflt (refine' code_defN ?k1 ?k2 ?k3 ?k4 ?k5 ?kA ?kF ?kK ?k6 ?k7 ?k8 ?k9 ?kB ?hl ?_ ?c2 ?c3 ?c4 ?c5; (case kA => exact rfl); (case kF => exact rfl); (case kK => assumption); (case k1 => k_asm); (case k2 => k_asm); (case k3 => k_asm); (case k4 => k_asm); (case k5 => k_asm); (case k6 => k_is); (case k7 => k_is); (case k8 => first | exact room0 hd | ktr_room); (case k9 => exact BindsTo.of_eq rfl); (case c5 => decide); (case kB => exact locs rfl); (case hl => first | exact (rfl : _ = [(_, _)]) | exact (rfl : _ = [(_, _), (_, _)]) | exact (rfl : _ = [(_, _), (_, _), (_, _)]) | exact rfl); (case c2 => exact rfl); (case c3 => exact rfl); (case c4 => exact rfl); k_whole; intro g' L' h' tkE FG' F' N' B' X' T'; (try dsimp only); (try k_lift B'); (try k_fold))
  (change let ev : Env := _; wpAny _ (Around.deeper _ ev) (execs _ ev) _ _ _)
  intro ev
  (change let Ax : Around := _; wpAny _ Ax (execs _ ev) _ _ _)
  intro Ax
  k_steps
  exact cb_retS hret (by rw [lst_app, lst_Tx, lst_Tx]) (by k_asm) (cb_drop (by k_asm) (by kcj_all))
end
-- KbT
section
open MeetsSeq
theorem forIn_find {M : Model} {A : Around} {E : Value → Shared → Prop} {s : Shared} {β : Type} {f : Nat → β → Sem (ForInStep β)} {Q : β → Shared → Prop} (n j : Nat) (b : β) (hj : j < n)
    (miss : ∀ i, i < j → wpAny M A (f i b) (fun r s' => r = .yield b ∧ s' = s) E s) (hit : wpAny M A (f j b) (fun r s' => ∃ b', r = .done b' ∧ Q b' s') E s) : wpAny M A (forIn ([:n] : Std.Legacy.Range) b f) Q E s := by
  rw [Std.Legacy.Range.forIn_eq_forIn_range']
  have e : List.range' ([:n] : Std.Legacy.Range).start ([:n] : Std.Legacy.Range).size ([:n] : Std.Legacy.Range).step = List.range' 0 n := by
    show List.range' 0 _ 1 = _
    congr 1
    show (n - 0 + 1 - 1) / 1 = n
    simp
  rw [e]
  refine wpAny_forIn_list f (fun rest b' s' => ∃ i, i ≤ j ∧ rest = List.range' i (n - i) ∧ b' = b ∧ s' = s) Q ?_ ?_ _ _ ⟨0, Nat.zero_le _, by simp, rfl, rfl⟩
  · rintro x rest b' s' ⟨i, hi, hr, rfl, rfl⟩
    obtain ⟨k, hk⟩ : ∃ k, n - i = k + 1 := ⟨n - i - 1, by omega⟩
    rw [hk, List.range'_succ] at hr
    injection hr with h1 h2
    subst h1
    by_cases h : x = j
    · subst h
      refine wpAny_mono hit (fun r s'' h' => ?_) fun _ _ h' => h'
      obtain ⟨b'', rfl, hq⟩ := h'
      exact hq
    · refine wpAny_mono (miss x (by omega)) (fun r s'' h' => ?_) fun _ _ h' => h'
      obtain ⟨rfl, rfl⟩ := h'
      refine ⟨x + 1, by omega, ?_, rfl, rfl⟩
      rw [h2]
      congr 1
      omega
  · rintro b' s' ⟨i, hi, hr, _, _⟩
    have : (List.range' i (n - i)).length = 0 := by rw [← hr]; rfl
    rw [List.length_range'] at this
    omega
theorem tup_index (l : Addr) (items : Array Value) (n : Nat) (dd : Option Addr) (sl : Array (Option Value)) (x : Value) (e : Value → Bool) (j : Nat) (he : ∀ y, y ∈ items → EqGives y x (e y)) (hj : j < items.size) (hit : e items[j] = true) (hno : ∀ m (hm : m < items.size), m < j → e items[m] = false) :
    Meets (Builtin.«tuple.index» ⟨[.ref l, x], []⟩)
      (fun A R s => s.heap.get? l = some { cls := .type "tuple", dict := dd, data := .seq items n, slots := sl } ∧ R (.ok (.ret (.int j s.toks))) { s with toks := s.toks + 1 }) :=
  .of_wp fun prog w A R s h => by
    obtain ⟨hp, g, d, tk, os⟩ := s; obtain ⟨hl, h⟩ := h
    wp_walk using AutoSeq1.wpAny_loadPart' hl, forIn_find (min items.size items.size) j _ (by omega)
    case miss =>
      intro i hi
      have hi' : items[i]? = some items[i] := by simp [Nat.lt_trans hi hj]
      simp only [hi']
      refine wpAny_bind (he _ (Array.getElem_mem (Nat.lt_trans hi hj)) prog w _ _ _ _ ?_)
      rw [hno i (Nat.lt_trans hi hj) hi]
      exact wpAny_pure ⟨rfl, rfl⟩
    case hit =>
      have hi' : items[j]? = some items[j] := by simp [hj]
      simp only [hi']
      refine wpAny_bind (he _ (Array.getElem_mem hj) prog w _ _ _ _ ?_)
      rw [hit]
      wp_walk
      exact ⟨_, rfl, wpAny_pure ⟨_, rfl, h⟩⟩
noncomputable def plainV : Array Value := #[.int 9 384, .int 13 385, .int 27 386]
theorem plain_ints : IntsAre plainV.toList [9, 13, 27] := .cons _ _ (.cons _ _ (.cons _ _ .nil))
theorem in_plain {w : World} {A : Around} {E : Value → Shared → Prop} {s : Shared} {c : Int} {u : Tok} {b : Bool} {Q : Value → Shared → Prop} (ht : IsTup s.heap 143 plainV) (hb : ([9, 13, 27] : List Int).any (· == c) = b) (h : Q (.bool b) s) :
    wpAny (model PySem.Challenge.pw_np0049_01 w) A (compareOp .In (.int c u) (.ref 143)) Q E s := by
  refine in_tuple_ints ht plain_ints ?_
  rw [hb]; exact h
section
variable {w : World} {A : Around} {E : Value → Shared → Prop} {s : Shared} {n : Nat}
theorem meth_plain {pl : Sem Bool} {Q : Value × List Value → Shared → Prop} (ho : s.heap.get? 143 = some { cls := .type "tuple", data := .seq plainV n })
    (h : Q (.builtin "tuple.index", [.ref 143]) s) : wpAny (model PySem.Challenge.pw_np0049_01 w) A (getMethod (.ref 143) (Str.ofString "index") pl) Q E s :=
  getMethod_builtin ⟨_, ho, rfl⟩ PySem.F.plainAttrs_tuple PySem.F.slot_tuple_index PySem.F.type_tuple_index (fun a e => by cases e; exact ⟨_, ho, rfl⟩) h
theorem idx_plain {c : Int} {u : Tok} {j : Nat} {Q : Value → Shared → Prop} (ho : s.heap.get? 143 = some { cls := .type "tuple", data := .seq plainV n }) (hj : c = 9 ∧ j = 0 ∨ c = 13 ∧ j = 1 ∨ c = 27 ∧ j = 2) (h : Q (.int j s.toks) { s with toks := s.toks + 1 }) :
    wpAny (model PySem.Challenge.pw_np0049_01 w) A (call (.builtin "tuple.index") [.ref 143, .int c u]) Q E s := by
  have he : ∀ y, y ∈ plainV → EqGives y (.int c u) (isInt c y) := fun y hy => kf_eq (l := plainV.toList) rfl y (by simpa using hy)
  refine call_meets PySem.F.slot_tuple_index ⟨_, ho, rfl⟩ PySem.F.entry_tuple_index (PySem.F.args_tuple_index_2 _ _) (tup_index 143 plainV n none #[] (.int c u) (isInt c) j he ?_ ?_ ?_) ⟨ho, h⟩
  · show j < 3; omega
  · rcases hj with ⟨rfl, rfl⟩ | ⟨rfl, rfl⟩ | ⟨rfl, rfl⟩ <;> rfl
  · intro m hm hlt
    rcases hj with ⟨rfl, rfl⟩ | ⟨rfl, rfl⟩ | ⟨rfl, rfl⟩
    · omega
    · obtain rfl : m = 0 := by omega
      rfl
    · rcases (by omega : m = 0 ∨ m = 1) with rfl | rfl <;> rfl
end
theorem get_K {K : Frag} {h : Heap} {a : Addr} {o : Obj} (X : K.In h) (e : K.lookup a = some o) : h.get? a = some o := X a o e
theorem frA {news : Led} {D : Addr} (h : AllLt D news) : ∀ p ∈ news, p.1 ≠ D := fun p hp => Nat.ne_of_lt (ktn_ltOf h p hp)
theorem fr1 {news : Led} {D : Addr} {P : Prop} (h : P ∧ AllLt D news) : ∀ p ∈ news, p.1 ≠ D := frA h.2
theorem fr2 {news : Led} {D : Addr} {P R : Prop} (h : P ∧ R ∧ AllLt D news) : ∀ p ∈ news, p.1 ≠ D := frA h.2.2
theorem fr3 {news : Led} {D : Addr} {P R S : Prop} (h : P ∧ R ∧ S ∧ AllLt D news) : ∀ p ∈ news, p.1 ≠ D := frA h.2.2.2
theorem fn1 {news : Led} {D : Addr} {a : Addr × Obj} (h : ∀ p ∈ a :: news, p.1 ≠ D) : ∀ p ∈ news, p.1 ≠ D := fun p hp => h p (.tail _ hp)
theorem fn2 {news : Led} {D : Addr} {a b : Addr × Obj} (h : ∀ p ∈ a :: b :: news, p.1 ≠ D) : ∀ p ∈ news, p.1 ≠ D := fun p hp => h p (.tail _ (.tail _ hp))
end
-- KbZip
section
open PySem.Spec PySem.Calls PyProof.Rows.LCg
section
variable {prog : Program} {w : World} {A : Around} {E : Value → Shared → Prop} {s : Shared}
theorem nextOf_tuple_item {it t : Addr} {i : Nat} {items} {x : Value} {Q : Value → Shared → Prop} (hit : s.heap.IsTupleIter it t i) (ht : s.heap.IsTuple t items) (hx : items[i]? = some x)
    (hQ : ∀ h', h'.IsTupleIter it t (i + 1) → Heap.SameBut it s.heap h' → Q x { s with heap := h' }) :
    wpAny (model prog w) A (Builtin.SmallTypes.nextOf (.ref it)) Q E s := by
  obtain ⟨o, ho, hc, hd⟩ := id hit
  obtain ⟨ol, hol, _, nl, hdl⟩ := ht
  unfold Builtin.SmallTypes.nextOf
  refine wpAny_bind (wpAny_callSpecial?_slot (name := Str.ofString "__next__") hit.typeIs F.slot_tuple_iterator_next
    (wpAny_call_entry F.slot_tuple_iterator_next hit.typeIs F.entry_tuple_iterator_next ?_ (F.args_tuple_iterator_next_1 _)))
  show wpAny _ _ (field (.ref it) 0 >>= _) _ _ s
  refine wpAny_bind (wpAny_field ho hd (x := .ref t) rfl ?_)
  show wpAny _ _ (if (Value.ref t == Value.none) = true then _ else _) _ _ s
  rw [if_neg (show ¬ ((Value.ref t == Value.none) = true) from Bool.false_ne_true)]
  show wpAny _ _ (field (.ref it) 1 >>= _) _ _ s
  refine wpAny_bind (wpAny_field ho hd (x := .int i 0) rfl ?_)
  show wpAny _ _ (seqItems? (.ref t) >>= _) _ _ s
  refine wpAny_bind (wpAny_seqItems hol hdl ?_)
  simp only [Int.toNat_natCast, hx]
  refine wpAny_bind (wpAny_setField ho hd (by simp) (wpAny_pure ⟨x, rfl, wpAny_pure (hQ _ ?_ (Heap.SameBut.update ..))⟩))
  exact ⟨_, Heap.get?_update_self _ ho (Obj.isFreed_of_fields (Obj.data_mapFields hd _)), (Obj.cls_mapFields ..).trans hc, by
    rw [Obj.data_mapFields hd]; simp [rawInt]⟩
abbrev SIter (h : Heap) (i : Addr) (x : Str) (t : Tok) (k : Nat) : Prop := h.IsStrIter i "str_ascii_iterator" x t k
theorem sIter_but {h h' : Heap} {i b : Addr} {x : Str} {t : Tok} {k : Nat} (H : SIter h i x t k) (hs : ∀ c o, c ≠ b → h.get? c = some o → h'.get? c = some o) (n : i ≠ b) : SIter h' i x t k :=
  let ⟨o, ho, r⟩ := H; ⟨o, hs i o n ho, r⟩
theorem tIter_but {h h' : Heap} {i b t : Addr} {k : Nat} (H : h.IsTupleIter i t k) (hs : ∀ c o, c ≠ b → h.get? c = some o → h'.get? c = some o) (n : i ≠ b) : h'.IsTupleIter i t k :=
  let ⟨o, ho, r⟩ := H; ⟨o, hs i o n ho, r⟩
theorem tup_but {h h' : Heap} {b t : Addr} {ys : Array Value} (H : h.IsTuple t ys) (hs : ∀ c o, c ≠ b → h.get? c = some o → h'.get? c = some o) (n : t ≠ b) : h'.IsTuple t ys :=
  let ⟨o, ho, r⟩ := H; ⟨o, hs t o n ho, r⟩
theorem zipST_item {z TI TO i1 i2 l2 : Addr} {k : Nat} {x : Str} {tx : Tok} {ys : Array Value} {c : Nat} {y a b : Value} {Q : Value → Shared → Prop} (D : ZipApart z TI TO i1 i2 l2 l2)
    (hz : IsZip s.heap z TI TO .none) (hTI : IsPair s.heap TI (.ref i1) (.ref i2)) (hTO : IsPair s.heap TO a b)
    (h1 : SIter s.heap i1 x tx k) (h2 : s.heap.IsTupleIter i2 l2 k) (hl2 : s.heap.IsTuple l2 ys) (hx : x.cps[k]? = some c) (hy : ys[k]? = some y)
    (hQ : ∀ h' tk u, IsZip h' z TI TO (rawInt s.heap.objs.size) → IsPair h' TO (.str ⟨#[c]⟩ u) y → SIter h' i1 x tx (k + 1) → h'.IsTupleIter i2 l2 (k + 1) → IsPair h' s.heap.objs.size (.str ⟨#[c]⟩ u) y → h'.objs.size = s.heap.objs.size + 1 →
      (∀ c o, c ≠ z → c ≠ TO → c ≠ i1 → c ≠ i2 → s.heap.get? c = some o → h'.get? c = some o) → Q (.ref s.heap.objs.size) { s with heap := h', toks := tk }) :
    wpAny (model prog w) A (Builtin.«zip.__next__» ⟨[.ref z], []⟩) (fun fin s' => ∃ v, fin = .done (.ret v) ∧ Q v s') E s := by
  show wpAny _ _ (field (.ref z) 2 >>= _) _ _ _
  refine wpAny_bind (wpAny_field hz rfl (x := .bool false) rfl ?_)
  show wpAny _ _ (field (.ref z) 3 >>= _) _ _ _
  refine wpAny_bind (wpAny_field hz rfl (x := .ref TI) rfl ?_)
  refine wpAny_bind (wpAny_seqItems hTI rfl ?_)
  show wpAny _ _ (Builtin.SmallTypes.ownedTupleIsFree (.ref z) >>= _) _ _ _
  refine wpAny_bind ?_
  unfold Builtin.SmallTypes.ownedTupleIsFree
  refine wpAny_bind (wpAny_field hz rfl (x := .none) rfl (wpAny_pure ?_))
  simp only [if_true]
  refine wpAny_bind (wpAny_rule ?_)
  refine wpAny_bind (wpAny_field hz rfl (x := .ref TO) rfl ?_)
  refine wpAny_bind (wpAny_setField_rec hz (by simp) fun h₁ hz₁ hs₁ => ?_)
  replace hz₁ : IsZip h₁ z TI TO .ellipsis := hz₁
  refine wpAny_bind ?_
  simp only [List.zipIdx_cons, List.zipIdx_nil, List.forIn_cons, List.forIn_nil]
  refine wpAny_bind (wpAny_bind (wpAny_onRaise ?_))
  show wpAny _ _ (Builtin.SmallTypes.nextOf (.ref i1) >>= _) _ _ _
  refine wpAny_bind (wpAny_nextOf_ascii_item (sIter_but h1 hs₁.extBut D.i1z) hx fun h₂ h1₂ hs₂ => wpAny_pure ?_)
  have hTO₂ : IsPair h₂ TO a b := hs₂.extBut _ _ D.TOi1 (hs₁.extBut _ _ D.TOz hTO)
  refine wpAny_bind (wpAny_seqItems hTO₂ rfl ?_)
  refine wpAny_bind (wpAny_updateSeq_pair hTO₂ fun h₃ hTO₃ hs₃ => ?_)
  replace hTO₃ : IsPair h₃ TO (.str ⟨#[c]⟩ s.toks) b := hTO₃
  refine wpAny_bind (wpAny_letGo (wpAny_pure ?_))
  refine wpAny_bind (wpAny_bind (wpAny_onRaise ?_))
  show wpAny _ _ (Builtin.SmallTypes.nextOf (.ref i2) >>= _) _ _ _
  refine wpAny_bind (nextOf_tuple_item (tIter_but (tIter_but (tIter_but h2 hs₁.extBut D.i2z) hs₂.extBut D.i12.symm) hs₃.extBut D.TOi2.symm)
    (tup_but (tup_but (tup_but hl2 hs₁.extBut D.l2z) hs₂.extBut D.l2i1) hs₃.extBut D.l2TO) hy fun h₄ h2₄ hs₄ => wpAny_pure ?_)
  have hTO₄ : IsPair h₄ TO (.str ⟨#[c]⟩ s.toks) b := hs₄.extBut _ _ D.TOi2 hTO₃
  refine wpAny_bind (wpAny_seqItems hTO₄ rfl ?_)
  refine wpAny_bind (wpAny_updateSeq_pair hTO₄ fun h₅ hTO₅ hs₅ => ?_)
  replace hTO₅ : IsPair h₅ TO (.str ⟨#[c]⟩ s.toks) y := hTO₅
  refine wpAny_bind (wpAny_letGo (wpAny_pure (wpAny_pure ?_)))
  refine wpAny_bind (wpAny_seqItems hTO₅ rfl ?_)
  refine wpAny_bind (wpAny_newTuple ?_)
  have hsz : h₅.objs.size = s.heap.objs.size := by rw [hs₅.1, hs₄.1, hs₃.1, hs₂.1, hs₁.1]
  have hz₅ : IsZip h₅ z TI TO .ellipsis := hs₅.extBut _ _ D.TOz.symm (hs₄.extBut _ _ D.i2z.symm (hs₃.extBut _ _ D.TOz.symm (hs₂.extBut _ _ D.i1z.symm hz₁)))
  have hk₅ : ∀ c o, c ≠ z → c ≠ TO → c ≠ i1 → c ≠ i2 → s.heap.get? c = some o → h₅.get? c = some o := fun c o c1 c2 c3 c4 e =>
    hs₅.extBut _ _ c2 (hs₄.extBut _ _ c4 (hs₃.extBut _ _ c2 (hs₂.extBut _ _ c3 (hs₁.extBut _ _ c1 e))))
  have h1₅ : SIter h₅ i1 x tx (k + 1) := sIter_but (sIter_but (sIter_but h1₂ hs₃.extBut D.TOi1.symm) hs₄.extBut D.i12) hs₅.extBut D.TOi1.symm
  have h2₅ : h₅.IsTupleIter i2 l2 (k + 1) := tIter_but h2₄ hs₅.extBut D.TOi2.symm
  have hzlt : z < h₅.objs.size := Heap.lt_size hz₅
  show wpAny _ _ (Builtin.SmallTypes.ownedTupleHandOut (.ref z) (.ref h₅.objs.size) >>= _) _ _ _
  refine wpAny_bind ?_
  unfold Builtin.SmallTypes.ownedTupleHandOut
  have hz₆ : IsZip (h₅.push { cls := .type "tuple", data := .seq #[.str ⟨#[c]⟩ s.toks, y] }) z TI TO .ellipsis := Heap.get?_push_of_some _ hz₅
  refine wpAny_bind (wpAny_setField_rec hz₆ (by simp) fun h₇ hz₇ hs₇ => ?_)
  replace hz₇ : IsZip h₇ z TI TO (rawInt h₅.objs.size) := hz₇
  refine wpAny_setField_rec hz₇ (by simp) fun h₈ hz₈ hs₈ => ?_
  replace hz₈ : IsZip h₈ z TI TO (rawInt h₅.objs.size) := hz₈
  have up : ∀ c o, c ≠ z → h₅.get? c = some o → h₈.get? c = some o := fun c o c1 e => hs₈.extBut _ _ c1 (hs₇.extBut _ _ c1 (Heap.get?_push_of_some _ e))
  have hT₈ : IsPair h₈ h₅.objs.size (.str ⟨#[c]⟩ s.toks) y := hs₈.extBut _ _ (Nat.ne_of_gt hzlt) (hs₇.extBut _ _ (Nat.ne_of_gt hzlt) (Heap.get?_push_size _ rfl))
  have hz8 : h₈.objs.size = h₅.objs.size + 1 := by rw [hs₈.1, hs₇.1, Heap.size_push]
  rw [hsz] at hz₈ hT₈ hz8
  refine wpAny_pure ⟨_, rfl, ?_⟩
  show Q (.ref h₅.objs.size) _
  rw [hsz]
  exact hQ h₈ _ _ hz₈ (up _ _ D.TOz hTO₅) (sIter_but h1₅ up D.i1z) (tIter_but h2₅ up D.i2z) hT₈ hz8 fun c o c1 c2 c3 c4 e => up c o c1 (hk₅ c o c1 c2 c3 c4 e)
theorem zipST_end {z TI TO i1 i2 l2 : Addr} {k : Nat} {x : Str} {tx : Tok} {a b : Value} {Q : Fin → Shared → Prop} (hh : A.handled = none) (D : ZipApart z TI TO i1 i2 l2 l2)
    (hz : IsZip s.heap z TI TO .none) (hTI : IsPair s.heap TI (.ref i1) (.ref i2)) (hTO : IsPair s.heap TO a b)
    (h1 : SIter s.heap i1 x tx k) (hend : x.cps[k]? = none)
    (hE : ∀ h' e, (∀ c o, c ≠ z → c ≠ TO → c ≠ i1 → c ≠ i2 → s.heap.get? c = some o → h'.get? c = some o) → (∃ o, h'.get? e = some o ∧ o.cls = .type "StopIteration") → E (.ref e) { s with heap := h' }) :
    wpAny (model prog w) A (Builtin.«zip.__next__» ⟨[.ref z], []⟩) Q E s := by
  show wpAny _ _ (field (.ref z) 2 >>= _) _ _ _
  refine wpAny_bind (wpAny_field hz rfl (x := .bool false) rfl ?_)
  show wpAny _ _ (field (.ref z) 3 >>= _) _ _ _
  refine wpAny_bind (wpAny_field hz rfl (x := .ref TI) rfl ?_)
  refine wpAny_bind (wpAny_seqItems hTI rfl ?_)
  show wpAny _ _ (Builtin.SmallTypes.ownedTupleIsFree (.ref z) >>= _) _ _ _
  refine wpAny_bind ?_
  unfold Builtin.SmallTypes.ownedTupleIsFree
  refine wpAny_bind (wpAny_field hz rfl (x := .none) rfl (wpAny_pure ?_))
  simp only [if_true]
  refine wpAny_bind (wpAny_rule ?_)
  refine wpAny_bind (wpAny_field hz rfl (x := .ref TO) rfl ?_)
  refine wpAny_bind (wpAny_setField_rec hz (by simp) fun h₁ hz₁ hs₁ => ?_)
  replace hz₁ : IsZip h₁ z TI TO .ellipsis := hz₁
  refine wpAny_bind ?_
  simp only [List.zipIdx_cons, List.zipIdx_nil, List.forIn_cons, List.forIn_nil]
  refine wpAny_bind (wpAny_bind (wpAny_onRaise ?_))
  show wpAny _ _ (Builtin.SmallTypes.nextOf (.ref i1) >>= _) _ _ _
  refine wpAny_bind (wpAny_nextOf_ascii_end hh (sIter_but h1 hs₁.extBut D.i1z) hend fun h₂ e hs₂ he => ?_)
  obtain ⟨oe, hoe, hce⟩ := he
  have hz₂ : IsZip h₂ z TI TO .ellipsis := hs₂ _ _ D.i1z.symm hz₁
  have hez : e ≠ z := fun x => by subst x; rw [hz₂] at hoe; cases hoe; simp at hce
  refine wpAny_setField_rec hz₂ (by simp) fun h₃ _ hs₃ => hE h₃ e (fun c o c1 _ c3 _ x => hs₃.extBut _ _ c1 (hs₂ _ _ c3 (hs₁.extBut _ _ c1 x))) ⟨oe, hs₃.extBut _ _ hez hoe, hce⟩
theorem pyNext_zipST_item {z TI TO i1 i2 l2 : Addr} {k : Nat} {x : Str} {tx : Tok} {ys : Array Value} {c : Nat} {y a b : Value} {Q : Option Value → Shared → Prop} (D : ZipApart z TI TO i1 i2 l2 l2)
    (hz : IsZip s.heap z TI TO .none) (hTI : IsPair s.heap TI (.ref i1) (.ref i2)) (hTO : IsPair s.heap TO a b)
    (h1 : SIter s.heap i1 x tx k) (h2 : s.heap.IsTupleIter i2 l2 k) (hl2 : s.heap.IsTuple l2 ys) (hx : x.cps[k]? = some c) (hy : ys[k]? = some y)
    (hQ : ∀ h' tk u, IsZip h' z TI TO (rawInt s.heap.objs.size) → IsPair h' TO (.str ⟨#[c]⟩ u) y → SIter h' i1 x tx (k + 1) → h'.IsTupleIter i2 l2 (k + 1) → IsPair h' s.heap.objs.size (.str ⟨#[c]⟩ u) y → h'.objs.size = s.heap.objs.size + 1 →
      (∀ c o, c ≠ z → c ≠ TO → c ≠ i1 → c ≠ i2 → s.heap.get? c = some o → h'.get? c = some o) → Q (some (.ref s.heap.objs.size)) { s with heap := h', toks := tk }) :
    wpAny (model prog w) A (pyNext (.ref z)) Q E s := by
  have hT : s.TypeIs (.ref z) "zip" := ⟨_, hz, rfl⟩
  unfold pyNext
  exact wpAny_bind (wpAny_attempt (wpAny_callSpecial?_slot (name := Str.ofString "__next__") hT F.slot_zip_next
    (wpAny_call_entry F.slot_zip_next hT F.entry_zip_next
      (zipST_item D hz hTI hTO h1 h2 hl2 hx hy fun h' tk u a1 a2 a3 a4 a5 a6 a7 => wpAny_pure (hQ h' tk u a1 a2 a3 a4 a5 a6 a7)) (F.args_zip_next_1 _))))
theorem pyNext_zipST_end {z TI TO i1 i2 l2 : Addr} {k : Nat} {x : Str} {tx : Tok} {a b : Value} {Q : Option Value → Shared → Prop} (hh : A.handled = none) (D : ZipApart z TI TO i1 i2 l2 l2)
    (hz : IsZip s.heap z TI TO .none) (hTI : IsPair s.heap TI (.ref i1) (.ref i2)) (hTO : IsPair s.heap TO a b) (h1 : SIter s.heap i1 x tx k) (hend : x.cps[k]? = none)
    (hQ : ∀ h', (∀ c o, c ≠ z → c ≠ TO → c ≠ i1 → c ≠ i2 → s.heap.get? c = some o → h'.get? c = some o) → Q none { s with heap := h' }) : wpAny (model prog w) A (pyNext (.ref z)) Q E s := by
  have hT : s.TypeIs (.ref z) "zip" := ⟨_, hz, rfl⟩
  unfold pyNext
  refine wpAny_bind (wpAny_attempt (wpAny_callSpecial?_slot (name := Str.ofString "__next__") hT F.slot_zip_next
    (wpAny_call_entry F.slot_zip_next hT F.entry_zip_next (zipST_end hh D hz hTI hTO h1 hend fun h' e hk he => ?_) (F.args_zip_next_1 _))))
  obtain ⟨o, ho, hc⟩ := he
  refine wpAny_bind (wpAny_isInstance (T := "StopIteration") (b := true) ⟨o, ho, hc⟩ isSubtype_stop ?_)
  exact wpAny_pure (hQ _ hk)
noncomputable abbrev zs1 (h : Heap) (x : Str) (t : Tok) : Heap := h.push { cls := .type "str_ascii_iterator", data := .fields #[.str x t, .int 0 0] }
noncomputable abbrev zs2 (h : Heap) (x : Str) (t : Tok) (l2 : Addr) : Heap := (zs1 h x t).push { cls := .type "tuple_iterator", data := .fields #[.ref l2, .int 0 0] }
noncomputable abbrev zs3 (h : Heap) (x : Str) (t : Tok) (l2 : Addr) : Heap := (zs2 h x t l2).push { cls := .type "tuple", data := .seq #[.ref h.objs.size, .ref (zs1 h x t).objs.size] }
noncomputable abbrev zs4 (h : Heap) (x : Str) (t : Tok) (l2 : Addr) : Heap := (zs3 h x t l2).push { cls := .type "tuple", data := .seq #[.none, .none] }
noncomputable abbrev zs5 (h : Heap) (x : Str) (t : Tok) (l2 : Addr) : Heap := (zs4 h x t l2).push { cls := .type "zip", data := .fields #[.none, .bool false, .bool false, .ref (zs2 h x t l2).objs.size, .ref (zs3 h x t l2).objs.size] }
theorem meets_zipST (x : Str) (t : Tok) (l2 : Addr) (ys : Array Value) (ha : x.cps.all (· < 128) = true) :
    Meets (Builtin.«zip.__new__» ⟨[.type "zip", .str x t, .ref l2], []⟩) (fun _ R s => s.heap.IsTuple l2 ys ∧
      R (.ok (.ret (.ref (zs4 s.heap x t l2).objs.size))) { s with heap := zs5 s.heap x t l2 }) :=
  .of_wp fun prog w A R s h => by
    obtain ⟨hp, g, d, tk, os⟩ := s; obtain ⟨hl2, h⟩ := h
    have hsub := sub_zip
    have hL2 : Heap.IsTuple (Shared.heap ⟨hp.push { cls := .type "str_ascii_iterator", data := .fields #[.str x t, .int 0 0] }, g, d, tk, os⟩) l2 ys := hl2.push _
    wp_walk using wpAny_pyIter_ascii ha, wpAny_pyIter_tuple hL2
    exact ⟨_, rfl, h⟩
end
end
-- KbZip2
section
open PySem.Spec PySem.Calls PyProof.Rows.LCg
section
variable {prog : Program} {w : World} {A : Around} {E : Value → Shared → Prop} {s : Shared}
theorem call_zipST {x : Str} {t : Tok} {l2 : Addr} {ys : Array Value} {Q : Value → Shared → Prop} (ha : x.cps.all (· < 128) = true) (hl2 : s.heap.IsTuple l2 ys)
    (h : ∀ h', IsZip h' (s.heap.objs.size + 4) (s.heap.objs.size + 2) (s.heap.objs.size + 3) .none → IsPair h' (s.heap.objs.size + 2) (.ref s.heap.objs.size) (.ref (s.heap.objs.size + 1)) →
      IsPair h' (s.heap.objs.size + 3) .none .none → SIter h' s.heap.objs.size x t 0 → h'.IsTupleIter (s.heap.objs.size + 1) l2 0 → h'.objs.size = s.heap.objs.size + 5 →
      (∀ c o, s.heap.get? c = some o → h'.get? c = some o) → Q (.ref (s.heap.objs.size + 4)) { s with heap := h' }) :
    wpAny (model prog w) A (call (.type "zip") [.str x t, .ref l2]) Q E s := by
  refine callType_new F.called_zip (by decide) (F.typeCall_zip_2 _ _) (F.newCall_zip_2 _ _) (fun obj => F.args_object_init_3 obj _ _) F.entry_zip_new
    (meets_zipST x t l2 ys ha) ⟨hl2, ?_⟩
  have z1 : (zs1 s.heap x t).objs.size = s.heap.objs.size + 1 := Heap.size_push ..
  have z2 : (zs2 s.heap x t l2).objs.size = s.heap.objs.size + 2 := by rw [Heap.size_push, z1]
  have z3 : (zs3 s.heap x t l2).objs.size = s.heap.objs.size + 3 := by rw [Heap.size_push, z2]
  have z4 : (zs4 s.heap x t l2).objs.size = s.heap.objs.size + 4 := by rw [Heap.size_push, z3]
  have z5 : (zs5 s.heap x t l2).objs.size = s.heap.objs.size + 5 := by rw [Heap.size_push, z4]
  have g5 : (zs5 s.heap x t l2).get? (zs4 s.heap x t l2).objs.size = some _ := Heap.get?_push_size _ rfl
  have g4 : (zs5 s.heap x t l2).get? (zs3 s.heap x t l2).objs.size = some _ := Heap.get?_push_of_some _ (Heap.get?_push_size _ rfl)
  have g3 : (zs5 s.heap x t l2).get? (zs2 s.heap x t l2).objs.size = some _ := Heap.get?_push_of_some _ (Heap.get?_push_of_some _ (Heap.get?_push_size _ rfl))
  have g2 : (zs5 s.heap x t l2).get? (zs1 s.heap x t).objs.size = some _ := Heap.get?_push_of_some _ (Heap.get?_push_of_some _ (Heap.get?_push_of_some _ (Heap.get?_push_size _ rfl)))
  have g1 : (zs5 s.heap x t l2).get? s.heap.objs.size = some _ := Heap.get?_push_of_some _ (Heap.get?_push_of_some _ (Heap.get?_push_of_some _ (Heap.get?_push_of_some _ (Heap.get?_push_size _ rfl))))
  show _ ∧ _
  rw [z2, z3, z4] at g5
  rw [z1, z2] at g3
  rw [z3] at g4
  rw [z1] at g2
  rw [z4]
  exact ⟨⟨_, g5, rfl⟩, h _ g5 g3 g4 ⟨_, g1, rfl, rfl⟩ ⟨_, g2, rfl, rfl⟩ z5 fun c o x =>
    Heap.get?_push_of_some _ (Heap.get?_push_of_some _ (Heap.get?_push_of_some _ (Heap.get?_push_of_some _ (Heap.get?_push_of_some _ x))))⟩
theorem csrc_zip {z TI TO i1 i2 l2 : Addr} {x : Str} {tx : Tok} {ys : Array Value} {a b : Str} {pa pb tp : Pos} {kk : Nat} (hh : A.handled = none) (D : ZipApart z TI TO i1 i2 l2 l2) (hn : x.cps.size ≤ ys.size) (hab : a ≠ b) :
    CSrc prog w A (.Tuple [.Name a pa, .Name b pb] kk tp) [a, b] z [z, TI, TO, i1, i2, l2] [z, TO, i1, i2] x.cps.size
      (fun i m => ∃ c u y, x.cps[i]? = some c ∧ ys[i]? = some y ∧ m a = some (.str ⟨#[c]⟩ u) ∧ m b = some y)
      (fun i h => IsZip h z TI TO .none ∧ IsPair h TI (.ref i1) (.ref i2) ∧ (∃ a b, IsPair h TO a b) ∧ SIter h i1 x tx i ∧ h.IsTupleIter i2 l2 i ∧ h.IsTuple l2 ys) where
  sub := fun c hc => by simp at hc ⊢; rcases hc with rfl | rfl | rfl | rfl <;> simp
  frame := fun i h h' hst hk => by
    obtain ⟨hz, hTI, ⟨a, b, hTO⟩, ⟨o1, h1, r1⟩, ⟨o2, h2, r2⟩, ⟨o3, h3, r3⟩⟩ := hst
    exact ⟨hk z (by simp) _ hz, hk TI (by simp) _ hTI, ⟨a, b, hk TO (by simp) _ hTO⟩, ⟨o1, hk i1 (by simp) _ h1, r1⟩, ⟨o2, hk i2 (by simp) _ h2, r2⟩, ⟨o3, hk l2 (by simp) _ h3, r3⟩⟩
  item := fun i s cenv m' Q E hi hst hns hC hk hp hQ => by
    obtain ⟨hz, hTI, ⟨a0, b0, hTO⟩, h1, h2, hl2⟩ := hst
    have hC' : cenv.locals ≠ z ∧ cenv.locals ≠ TI ∧ cenv.locals ≠ TO ∧ cenv.locals ≠ i1 ∧ cenv.locals ≠ i2 ∧ cenv.locals ≠ l2 := by simpa using hC
    obtain ⟨c1, c2, c3, c4, c5, c6⟩ := hC'
    have hix : x.cps[i]? = some x.cps[i] := by simp [hi]
    have hiy : ys[i]? = some ys[i] := by simp [Nat.lt_of_lt_of_le hi hn]
    have lt : ∀ {c o}, s.heap.get? c = some o → s.heap.objs.size ≠ c := fun e => Nat.ne_of_gt (Heap.lt_size e)
    refine pyNext_zipST_item D hz hTI hTO h1 h2 hl2 hix hiy fun h' tk u e1 e2 e3 e4 e5 e6 hk' => ?_
    show wpAny _ _ (letOwnedTupleGo _ (.ref z) (.ref _)) _ _ _
    refine wpAny_letOwnedTupleGo_zip e1 fun h₂ hz₂ hs₂ => ?_
    have hup : ∀ c o, c ≠ z → c ≠ TO → c ≠ i1 → c ≠ i2 → s.heap.get? c = some o → h₂.get? c = some o := fun c o q1 q2 q3 q4 e => hs₂.extBut _ _ q1 (hk' c o q1 q2 q3 q4 e)
    have hn₂ : h₂.Ns cenv.locals m' := hns.at' fun o e => hup _ o c1 c3 c4 c5 e
    have hT : h₂.IsTuple s.heap.objs.size #[.str ⟨#[x.cps[i]]⟩ u, ys[i]] := ⟨_, hs₂.extBut _ _ (lt hz) e5, rfl, 0, rfl⟩
    refine kcp_assign hh hT (hk a (.head _)) (hk b (.tail _ (.head _))) hp hn₂ fun h₃ tk₃ hn₃ hk₃ => ?_
    refine hQ h₃ _ _ hn₃ ⟨_, u, _, hix, hiy, ?_, by simp⟩ ⟨hk₃ _ _ c1.symm hz₂, hk₃ _ _ c2.symm (hs₂.extBut _ _ D.TIz (hk' _ _ D.TIz D.TITO D.TIi1 D.TIi2 hTI)), ⟨_, _, hk₃ _ _ c3.symm (hs₂.extBut _ _ D.TOz e2)⟩, ?_, ?_, ?_⟩ fun c o q1 q2 e => ?_
    · show (if a = b then _ else if a = a then some _ else m' a) = _
      rw [if_neg hab, if_pos rfl]
    · exact sIter_but (sIter_but e3 hs₂.extBut D.i1z) (fun c o q e => hk₃ c o q e) c4.symm
    · exact tIter_but (tIter_but e4 hs₂.extBut D.i2z) (fun c o q e => hk₃ c o q e) c5.symm
    · obtain ⟨o, ho, r⟩ := hl2
      exact ⟨o, hk₃ _ _ c6.symm (hup _ _ D.l2z D.l2TO D.l2i1 D.l2i2 ho), r⟩
    · have q : c ≠ z ∧ c ≠ TO ∧ c ≠ i1 ∧ c ≠ i2 := by simpa using q1
      exact hk₃ c o q2 (hup c o q.1 q.2.1 q.2.2.1 q.2.2.2 e)
  done := fun s Q E hst hQ => by
    obtain ⟨hz, hTI, ⟨a, b, hTO⟩, h1, h2, hl2⟩ := hst
    exact pyNext_zipST_end hh D hz hTI hTO h1 (by simp) fun h' hk => hQ h' s.toks fun c o hc e => by
      have q : c ≠ z ∧ c ≠ TO ∧ c ≠ i1 ∧ c ≠ i2 := by simpa using hc
      exact hk c o q.1 q.2.1 q.2.2.1 q.2.2.2 e
  self := fun i s Q E hst hQ => wpAny_pyIter_zip hst.1 hQ
end
/-- the bits' block at its source -/
theorem comp_zip {prog : Program} {w : World} {A : Around} {E : Value → Shared → Prop} {s : Shared} {h₀ : Heap} {L : Addr} {m : Str → Option Value} {env : Env} {elt : Expr} {c : Option Expr} {a b : Str} {pa pb tp : Pos} {kk : Nat} {scope : Scope} {cl : List (Str × Addr)} {Q : Value → Shared → Prop} {x : Str} {t : Tok} {l2 : Addr} {ys : List Value} {news : List (Addr × Obj)} (J : Nat → List Value → Prop)
    (hh : A.handled = none) (F : Fr h₀ L s.heap m) (N : News h₀ L s.heap news) (ha : x.cps.all (· < 128) = true) (hl2 : IsTup h₀ l2 ys.toArray) (hn : x.cps.size ≤ ys.length) (hab : a ≠ b) (hsz : x.cps.size ≤ sizeLine) (hJ : J 0 [])
    (turn : ∀ i cc u y zs own C oC D m₂ h tk (E' : Value → Shared → Prop), x.cps[i]? = some cc → ys[i]? = some y → J i zs → NsObj oC m₂ → m₂ a = some (.str ⟨#[cc]⟩ u) → m₂ b = some y → Fr h₀ L h m →
      News h₀ L h ((C, oC) :: (D, lst zs) :: (news ++ own)) →
      CTest prog w A c (compEnvC scope cl C env) (fun s' => wpAny (model prog w) A (eval elt (compEnvC scope cl C env)) (fun v s₅ => TEnd h₀ L m { s with heap := h, toks := tk } ((C, oC) :: (D, lst zs) :: (news ++ own)) (J (i + 1) (zs ++ [v])) s₅) E' s')
        (TEnd h₀ L m { s with heap := h, toks := tk } ((C, oC) :: (D, lst zs) :: (news ++ own)) (J (i + 1) zs)) E' { s with heap := h, toks := tk })
    (done : ∀ D h tk zs, J x.cps.size zs → Fr h₀ L h m → News h₀ L h ((D, lst zs) :: news) → (∀ p ∈ news, p.1 ≠ D) → Q (.ref D) { s with heap := h, toks := tk }) :
    wpAny (model prog w) A (call (.type "zip") [.str x t, .ref l2]) (fun xv s₁ => wpAny (model prog w) A (pyIter xv) (fun it s₂ => CompAt prog w A h₀ L m env elt (.Tuple [.Name a pa, .Name b pb] kk tp) c [a, b] scope cl Q it s₂) E s₁) E s := by
  obtain ⟨ol, hol, hcl, nl, hdl⟩ := hl2
  have hlt0 : @LT.lt Nat _ l2 s.heap.objs.size := Heap.lt_size (F.keep _ _ hol)
  refine call_zipST ha ⟨ol, F.keep _ _ hol, hcl, nl, hdl⟩ fun h' z1 z2 z3 z4 z5 z6 hk => ?_
  refine wpAny_pyIter_zip z1 ?_
  have low : ∀ p ∈ news, p.1 < s.heap.objs.size := fun p hp => Heap.lt_size (N p hp).1
  have hL : L < s.heap.objs.size := F.ns.lt
  have D : ZipApart (s.heap.objs.size + 4) (s.heap.objs.size + 2) (s.heap.objs.size + 3) s.heap.objs.size (s.heap.objs.size + 1) l2 l2 := by
    constructor <;> (intro e; first | (have e' : (_ : Nat) = _ := e; omega))
  have F' : Fr h₀ L h' m := F.keeps hk
  have new : ∀ b, s.heap.objs.size ≤ b → h₀.get? b = none := fun b hb => by
    cases e : h₀.get? b with
    | none => rfl
    | some o => exact absurd (Heap.lt_size (F.keep _ _ e)) (Nat.not_lt.mpr hb)
  have hx2 : x.cps.size ≤ ys.toArray.size := by simpa using hn
  refine ⟨_, _, _, _, _, _, news, (fun i zs nx => nx = news ∧ J i zs), rfl, csrc_zip (tx := t) (ys := ys.toArray) hh D hx2 hab, hsz, ⟨z1, z2, ⟨_, _, z3⟩, z4, z5, ⟨ol, hk _ _ (F.keep _ _ hol), hcl, nl, hdl⟩⟩, ?_, F', (fun p hp => ⟨hk _ _ (N p hp).1, (N p hp).2⟩), ?_, ?_, ?_, ⟨rfl, hJ⟩, ?_, ?_⟩
  · intro b hb
    show b < h'.objs.size
    rw [z6]
    simp only [List.mem_cons, List.not_mem_nil, or_false] at hb
    rcases hb with rfl | rfl | rfl | rfl | rfl | rfl
    all_goals (first | exact Nat.lt_add_right _ hlt0 | (show (_ : Nat) < _; omega))
  · intro h
    simp only [List.mem_cons, List.not_mem_nil, or_false] at h
    rcases h with h | h | h | h | h | h
    · exact absurd hL (h ▸ Nat.not_lt.mpr (by show (_ : Nat) ≤ _; omega))
    · exact absurd hL (h ▸ Nat.not_lt.mpr (by show (_ : Nat) ≤ _; omega))
    · exact absurd hL (h ▸ Nat.not_lt.mpr (by show (_ : Nat) ≤ _; omega))
    · exact absurd hL (h ▸ Nat.lt_irrefl _)
    · exact absurd hL (h ▸ Nat.not_lt.mpr (by show (_ : Nat) ≤ _; omega))
    · exact absurd (Nat.lt_of_lt_of_le (Heap.lt_size hol) F.above) (h ▸ Nat.lt_irrefl _)
  · intro b hb
    simp only [List.mem_cons, List.not_mem_nil, or_false] at hb
    rcases hb with rfl | rfl | rfl | rfl <;> exact new _ (by show (_ : Nat) ≤ _; omega)
  · intro p hp hI
    have := low p hp
    simp only [List.mem_cons, List.not_mem_nil, or_false] at hI
    rcases hI with h | h | h | h <;> (rw [h] at this; exact absurd this (Nat.not_lt.mpr (by show (_ : Nat) ≤ _; omega)))
  · rintro i zs news₁ own C oC D' m₂ h tk E' hi hyl ⟨cc, u, y, hc, hy, hma, hmb⟩ ⟨rfl, hJi⟩ hown off hC hD hCD hN F₁ N₁
    have N₂ : News h₀ L h ((C, oC) :: (D', lst zs) :: (news₁ ++ own)) := fun p hp => N₁ p (by
      simp only [List.mem_append, List.mem_cons, List.not_mem_nil, or_false] at hp ⊢
      rcases hp with h | h | h | h
      · exact .inl (.inr (.inl h))
      · exact .inl (.inr (.inr h))
      · exact .inr h
      · exact .inl (.inl h))
    have back : ∀ {K : Prop} {h' : Heap} {tk' : Nat}, TEnd h₀ L m { s with heap := h, toks := tk } ((C, oC) :: (D', lst zs) :: (news₁ ++ own)) K { s with heap := h', toks := tk' } → News h₀ L h' ((own ++ [(C, oC), (D', lst zs)]) ++ news₁) := by
      rintro K h' tk' ⟨h₂, tk₂, e, F₂, N', k⟩
      have : h' = h₂ := by injection e
      subst this
      exact fun p hp => N' p (by
        simp only [List.mem_append, List.mem_cons, List.not_mem_nil, or_false] at hp ⊢
        rcases hp with (h | h | h) | h
        · exact .inr (.inr (.inr h))
        · exact .inl h
        · exact .inr (.inl h)
        · exact .inr (.inr (.inl h)))
    refine CTest.mono (turn i cc u y zs own C oC D' m₂ h tk E' hc (by simpa using hy) hJi hN hma hmb F₁ N₂) (fun s' h' => wpAny_mono h' (fun v s₅ h₅ => ?_) fun _ _ e => e) (fun s' h₅ => ?_)
    · have b := h₅
      obtain ⟨h₂, tk₂, rfl, F₂, N', k⟩ := h₅
      exact ⟨h₂, tk₂, news₁, rfl, F₂, back b, off, rfl, k⟩
    · have b := h₅
      obtain ⟨h₂, tk₂, rfl, F₂, N', k⟩ := h₅
      exact ⟨h₂, tk₂, news₁, rfl, F₂, back b, off, rfl, k⟩
  · rintro D h tk zs news' F' N' o1 ⟨rfl, hJn⟩
    exact done D h tk zs hJn F' N' o1
end
-- KbI
theorem zz_KbI {prog : Program} {w : World} {A : Around} {env : Env} {E : Value → Shared → Prop} {s : Shared} {Q : Flow → Shared → Prop} (h : Q .next s) : wpAny (model prog w) A (execs [] env) Q E s := by
  k_with_none
  walk1
  exact h
section
theorem bit_at {i cc : Nat} {y : Value} (hc : (Str.ofString "ACHMSs").cps[i]? = some cc) (hy : bitsV[i]? = some y) : ∃ t, y = .int (bitL cc) t ∧ modL[i]? = some cc := by
  have h := mod_at hc
  match i, h with
  | 0, h => cases h; cases hy; exact ⟨_, rfl, rfl⟩
  | 1, h => cases h; cases hy; exact ⟨_, rfl, rfl⟩
  | 2, h => cases h; cases hy; exact ⟨_, rfl, rfl⟩
  | 3, h => cases h; cases hy; exact ⟨_, rfl, rfl⟩
  | 4, h => cases h; cases hy; exact ⟨_, rfl, rfl⟩
  | 5, h => cases h; cases hy; exact ⟨_, rfl, rfl⟩
  | n + 6, h => simp [modL] at h
theorem bit_step {e : Int} {i cc : Nat} {zs : List Value} {t : Tok} (h : modL[i]? = some cc) (b : Bool) (hb : (Builtin.bitAnd e (bitL cc) != 0) = b) (hJ : StrsAre zs ((((modL.take i).filter fun c => Builtin.bitAnd e (bitL c) != 0).map fun c => [c]).map Tx)) :
    StrsAre (if b then zs ++ [.str ⟨#[cc]⟩ t] else zs) ((((modL.take (i + 1)).filter fun c => Builtin.bitAnd e (bitL c) != 0).map fun c => [c]).map Tx) := by
  rw [List.take_add_one, h]
  simp only [Option.toList, List.filter_append, List.filter_cons, List.filter_nil, hb]
  cases b with
  | true =>
    simp only [if_true, List.map_append, List.map_cons, List.map_nil]
    exact hJ.append' (.cons _ _ .nil)
  | false => simpa using hJ
theorem bits_small (e : Int) (n : Nat) : (((((modL.take n).filter fun c => Builtin.bitAnd e (bitL c) != 0).map fun c => [c]).map Tx).map (·.length)).sum + ((((modL.take n).filter fun c => Builtin.bitAnd e (bitL c) != 0).map fun c => [c]).map Tx).length * (Str.ofString "").length ≤ 16777216 := by
  have e0 : (Str.ofString "").length = 0 := by decide +kernel
  rw [e0, Nat.mul_zero, Nat.add_zero, sum_ones _ _ (fun a ha => by
    obtain ⟨l, hl, rfl⟩ := List.mem_map.mp ha
    obtain ⟨c, _, rfl⟩ := List.mem_map.mp hl
    rfl)]
  simp only [List.length_map]
  refine Nat.le_trans (List.length_filter_le _ _) ?_
  refine Nat.le_trans (List.length_take_le' _ _) ?_
  exact Nat.le_trans (Nat.le_of_eq (rfl : modL.length = 6)) (by decide)
theorem bits_end (e : Int) : Txt.join (Str.ofString "") ((((modL.take (Str.ofString "ACHMSs").cps.size).filter fun c => Builtin.bitAnd e (bitL c) != 0).map fun c => [c]).map Tx) = Tx (bitLs e) := by
  have e0 : (Str.ofString "ACHMSs").cps.size = 6 := by decide +kernel
  rw [e0, joinT0]
  show Tx ((List.map (fun c => [c]) (bitLs e)).flatten) = _
  rw [← List.flatMap_def, List.flatMap_singleton']
section
theorem tell_bit_letters {w : World} {e : Int} {t : Tok} {news : Led} :
   TellV w 73 [.int e t] news 9 80 (fun t => .str (Tx (bitLs e)) t) := by
  k_with_none
  k_with "execs cons" => (k_here; with_reducible refine exs_cons fun _ => ?_; k_fold)
  k_with "call type:zip" => (k_here; with_reducible refine held_ ?_)
  k_with "eval ListComp" => (k_here; (with_reducible show wpAny _ _ (eval (.ListComp _ [⟨.Tuple [.Name _ _, .Name _ _] _ _, _, [_], 0⟩] _ _) _) _ _ _); k_dflt (refine' comp_evalP1 ?F ?k1 ?k2 ?k3 ?k4 ?k5 ?k6 ?_ (by intro _; rfl); (case F => k_asm); (case k1 => with_unfolding_all rfl); (case k2 => decide); (case k3 => rfl); (case k4 => decide); (case k5 => rfl); (case k6 => rfl)))
  have hfill : (PySem.Challenge.rw_np0049_01, hd.heap_39) = (PySem.Challenge.rw_np0049_01, hd.heap_39) := by k_fill; rfl
  clear hfill
  intro mean mg mb dp un gd cn cs a ccd cl outer A₀ base h₀ L m s Q E B F X N T hk hd hu hret
  refine wpAny_call ?_
  k_dflt (refine' code_defC ?k1 ?k2 ?k3 ?k4 ?k5 ?kA ?kF ?kK ?k6 ?k7 ?k8 ?k9 ?kB ?kD ?_ ?c2 ?c3 ?c4; (case kA => exact rfl); (case kF => exact rfl); (case kK => assumption); (case k1 => k_asm); (case k2 => k_asm); (case k3 => k_asm); (case k4 => k_asm); (case k5 => k_asm); (case k6 => k_is); (case k7 => k_is); (case k8 => first | exact room0 hd | ktr_room); (case k9 => exact BindsTo.of_eq rfl); (case kB => exact rfl); (case kD => decide +kernel); (case c2 => exact rfl); (case c3 => exact rfl); (case c4 => exact rfl); k_whole; intro g' L' h' tk' cells' FG' F' N' Y' B' X' T' l1; (try k_lt l1); k_cells Y'; (try simp only [List.cons_append, List.nil_append] at N'); (try dsimp only); (try k_lift B'); (try k_fold))
  k_steps
  refine heldI (comp_zip (ys := bitsV) (fun i ys => StrsAre ys ((((modL.take i).filter fun c => Builtin.bitAnd e (bitL c) != 0).map fun c => [c]).map Tx)) (by rfl) (by k_asm) (by k_asm) (by decide +kernel) (tup_K (by k_in) (by k_is)) (by decide +kernel) (by decide) (by decide +kernel) (by exact StrsAre.nil) ?_ ?_)
  · intro i cc u y ys own C oC D m₂ h tk E' hcc hy hJ hN hma hmb F9 N9
    obtain ⟨t9, rfl, hm⟩ := bit_at hcc hy
    dsimp only [CTest]
    k_steps
    · have q : Builtin.bitAnd e (bitL cc) ≠ 0 := by assumption
      exact TEnd.intro (by k_asm) (by k_asm) (fun _ h => h) (bit_step hm true (by simpa using q) hJ)
    · have q : Builtin.bitAnd e (bitL cc) = 0 := by assumption
      exact TEnd.intro (by k_asm) (by k_asm) (fun _ h => h) (bit_step (t := 0) hm false (by simpa using q) hJ)
  · intro D h tk ys hJ F9 N9 o9
    k_steps
    refine join_list (N9.isList (.head _)) hJ ?_ ?_
    exact bits_small _ _
    intro t9 k9
    k_steps
    exact cb_retS hret (bits_end e) (by k_asm) (cb_drop (by k_asm) (by kcj_all))
end
section
theorem kc_c0aadd15603 : True := by
  k_with_none
  k_with "call ref cons" => (k_here; first
    | ((with_reducible show wpAny _ _ (call (Value.ref 162) _) _ _ _); k_dflt (refine' TellV.use (tell_control_letter (by omega) (by omega)) ?k1 ?k2 ?k3 ?k4 ?k5 ?kK ?kd ?ku ?_; (case k1 => k_asm); (case k2 => k_asm); (case k3 => k_asm); (case k4 => k_asm); (case k5 => k_asm); (case kK => first | exact rfl | assumption); (case kd => first | exact room1 hd rfl | ktr_room); (case ku => first | exact room1 hu rfl | ktr_units); intro t9 h9 tk9 F9 N9; (try dsimp only); (try k_fold))))
  trivial
theorem tell_control_text {w : World} {c : Int} {b : Bool} {t : Tok} {news : Led} (h0 : 0 ≤ c) (h1 : c ≤ 31) :
   TellN w 176 [.int c t, .bool b] news 5 40 (PairO (controlText c b).1 (controlText c b).2) := by
  k_with "execs cons" => (k_here; with_reducible refine exs_cons fun _ => ?_; k_fold)
  k_with "compareOp In int ref" => (k_here; with_reducible refine held_ ?_)
  k_with "call builtin:tuple.index" => (k_here; with_reducible refine held_ ?_)
  k_with "getMethod ref" => (k_here; with_reducible refine held_ ?_)
  have hfill : (PySem.Challenge.rw_np0049_01, hd.heap_39) = (PySem.Challenge.rw_np0049_01, hd.heap_39) := by k_fill; rfl
  clear hfill
  intro mean mg mb dp un gd cn cs a ccd cl outer A₀ base h₀ L m s Q E B F X N T hk hd hu hret
  refine wpAny_call ?_
  k_dflt (refine' code_defN ?k1 ?k2 ?k3 ?k4 ?k5 ?kA ?kF ?kK ?k6 ?k7 ?k8 ?k9 ?kB ?hl ?_ ?c2 ?c3 ?c4 ?c5; (case kA => exact rfl); (case kF => exact rfl); (case kK => assumption); (case k1 => k_asm); (case k2 => k_asm); (case k3 => k_asm); (case k4 => k_asm); (case k5 => k_asm); (case k6 => k_is); (case k7 => k_is); (case k8 => first | exact room0 hd | ktr_room); (case k9 => exact BindsTo.of_eq rfl); (case c5 => decide); (case kB => exact locs rfl); (case hl => first | exact (rfl : _ = [(_, _)]) | exact (rfl : _ = [(_, _), (_, _)]) | exact (rfl : _ = [(_, _), (_, _), (_, _)]) | exact rfl); (case c2 => exact rfl); (case c3 => exact rfl); (case c4 => exact rfl); k_whole; intro g' L' h' tkE FG' F' N' B' X' T'; (try dsimp only); (try k_lift B'); (try k_fold))
  (change let ev : Env := _; wpAny _ (Around.deeper _ ev) (execs _ ev) _ _ _)
  intro ev
  (change let Ax : Around := _; wpAny _ Ax (execs _ ev) _ _ _)
  intro Ax
  k_steps
  · refine retN2 hret (by k_asm) (by k_asm) (by k_mem) (by kcj_all) (by first | assumption | exact lt_nes (by assumption) | exact fn1 (by assumption) | exact fn2 (by assumption) | exact fr1 (by assumption) | exact fr2 (by assumption) | exact fr3 (by assumption)) (pairO ?_ ?_)
    · unfold controlText; rw [if_pos ⟨by assumption, by assumption⟩]; show Lst (Str.ofString "C") = [67]; decide +kernel
    · unfold controlText; rw [if_pos ⟨by assumption, by assumption⟩]; show Lst (Str.ofString "i") = [105]; decide +kernel
  · have q9 : c = 9 := by assumption
    have qb : b = false := by assumption
    subst q9
    subst qb
    refine heldI (in_plain (b := true) (tup_K (by k_in) (by k_is)) (by simp) ?_)
    k_steps
    refine heldI (meth_plain (get_K (by k_in) (by k_is)) ?_)
    k_steps
    refine heldI (idx_plain (j := 0) (get_K (by k_in) (by k_is)) (.inl ⟨rfl, rfl⟩) ?_)
    k_steps
    exact retN2 hret (by k_asm) (by k_asm) (by k_mem) (by kcj_all) (by first | assumption | exact lt_nes (by assumption) | exact fn1 (by assumption) | exact fn2 (by assumption) | exact fr1 (by assumption) | exact fr2 (by assumption) | exact fr3 (by assumption)) (pairO (show Lst (Str.ofString "") = [] from by decide +kernel) (show Lst (Str.ofString "TAB") = [84, 65, 66] from by decide +kernel))
  · have q9 : c ≠ 9 := by assumption
    by_cases h13 : c = 13
    · subst h13
      refine heldI (in_plain (b := true) (tup_K (by k_in) (by k_is)) (by simp) ?_)
      k_steps
      refine heldI (meth_plain (get_K (by k_in) (by k_is)) ?_)
      k_steps
      refine heldI (idx_plain (j := 1) (get_K (by k_in) (by k_is)) (.inr (.inl ⟨rfl, rfl⟩)) ?_)
      k_steps
      exact retN2 hret (by k_asm) (by k_asm) (by k_mem) (by kcj_all) (by first | assumption | exact lt_nes (by assumption) | exact fn1 (by assumption) | exact fn2 (by assumption) | exact fr1 (by assumption) | exact fr2 (by assumption) | exact fr3 (by assumption)) (pairO (show Lst (Str.ofString "") = [] from by decide +kernel) (show Lst (Str.ofString "RET") = [82, 69, 84] from by decide +kernel))
    by_cases h27 : c = 27
    · subst h27
      refine heldI (in_plain (b := true) (tup_K (by k_in) (by k_is)) (by simp) ?_)
      k_steps
      refine heldI (meth_plain (get_K (by k_in) (by k_is)) ?_)
      k_steps
      refine heldI (idx_plain (j := 2) (get_K (by k_in) (by k_is)) (.inr (.inr ⟨rfl, rfl⟩)) ?_)
      k_steps
      exact retN2 hret (by k_asm) (by k_asm) (by k_mem) (by kcj_all) (by first | assumption | exact lt_nes (by assumption) | exact fn1 (by assumption) | exact fn2 (by assumption) | exact fr1 (by assumption) | exact fr2 (by assumption) | exact fr3 (by assumption)) (pairO (show Lst (Str.ofString "") = [] from by decide +kernel) (show Lst (Str.ofString "ESC") = [69, 83, 67] from by decide +kernel))
    refine heldI (in_plain (b := false) (tup_K (by k_in) (by k_is)) (by simp; omega) ?_)
    k_steps
    refine retN2 hret (by k_asm) (by k_asm) (by k_mem) (by kcj_all) (by first | assumption | exact lt_nes (by assumption) | exact fn1 (by assumption) | exact fn2 (by assumption) | exact fr1 (by assumption) | exact fr2 (by assumption) | exact fr3 (by assumption)) (pairO ?_ ?_)
    · unfold controlText; rw [if_neg (by omega), if_neg (by omega), if_neg (by omega), if_neg (by omega)]; show Lst (Str.ofString "C") = [67]; decide +kernel
    · unfold controlText; rw [if_neg (by omega), if_neg (by omega), if_neg (by omega), if_neg (by omega), lst_Tx]
end
end
-- KbJ
theorem zz_KbJ {prog : Program} {w : World} {A : Around} {env : Env} {E : Value → Shared → Prop} {s : Shared} {Q : Flow → Shared → Prop} (h : Q .next s) : wpAny (model prog w) A (execs [] env) Q E s := by
  k_with_none
  walk1
  exact h
section
theorem codeOf_range (e : Int) : 0 ≤ codeOf e ∧ codeOf e < 4194304 := by
  unfold codeOf
  rw [Int.fmod_eq_emod_of_nonneg _ (by decide)]
  exact ⟨Int.emod_nonneg _ (by decide), Int.emod_lt_of_pos _ (by decide)⟩
theorem bits_len (e : Int) : (Tx (bitLs e)).length ≤ 6 := by
  rw [T_len]; unfold bitLs; exact Nat.le_trans (List.length_filter_le _ _) (by decide)
theorem marks_len (l : List Nat) : (Tx (marksL l)).length ≤ 12 := by
  rw [T_len]; unfold marksL
  have := ord_len l
  rw [List.length_flatMap]
  have : ((ordL l).map fun a => [a, 45].length).sum = 2 * (ordL l).length := by
    generalize ordL l = l
    induction l with
    | nil => rfl
    | cons a r ih => simp only [List.map_cons, List.sum_cons, List.length_cons, List.length_nil] at ih ⊢; omega
  omega
theorem ctl_len (c : Int) (b : Bool) : (Tx (controlText c b).1).length ≤ 1 ∧ (Tx (controlText c b).2).length ≤ 3 := by
  rw [T_len, T_len]
  unfold controlText controlLetter
  repeat' split
  all_goals simp
theorem codeText_len (c : Int) : (Tx (codeText c)).length ≤ 3 := by
  rw [T_len]; unfold codeText
  repeat' split
  all_goals simp
theorem kc_0d2a847a232 : True := by
  k_with_none
  k_with "call ref cons" => (k_here; first
    | ((with_reducible show wpAny _ _ (call (Value.ref 61) _) _ _ _); k_dflt (refine' TellV.use (tell_code_of ) ?k1 ?k2 ?k3 ?k4 ?k5 ?kK ?kd ?ku ?_; (case k1 => k_asm); (case k2 => k_asm); (case k3 => k_asm); (case k4 => k_asm); (case k5 => k_asm); (case kK => first | exact rfl | assumption); (case kd => first | exact room1 hd rfl | ktr_room); (case ku => first | exact room1 hu rfl | ktr_units); intro t9 h9 tk9 F9 N9; (try dsimp only); (try k_fold)))
    | ((with_reducible show wpAny _ _ (call (Value.ref 73) _) _ _ _); k_dflt (refine' TellV.use (tell_bit_letters ) ?k1 ?k2 ?k3 ?k4 ?k5 ?kK ?kd ?ku ?_; (case k1 => k_asm); (case k2 => k_asm); (case k3 => k_asm); (case k4 => k_asm); (case k5 => k_asm); (case kK => first | exact rfl | assumption); (case kd => first | exact room1 hd rfl | ktr_room); (case ku => first | exact room1 hu rfl | ktr_units); intro t9 h9 tk9 F9 N9; (try dsimp only); (try k_fold)))
    | ((with_reducible show wpAny _ _ (call (Value.ref 127) _) _ _ _); k_dflt (refine' TellV.use (tell_is_control_code ) ?k1 ?k2 ?k3 ?k4 ?k5 ?kK ?kd ?ku ?_; (case k1 => k_asm); (case k2 => k_asm); (case k3 => k_asm); (case k4 => k_asm); (case k5 => k_asm); (case kK => first | exact rfl | assumption); (case kd => first | exact room1 hd rfl | ktr_room); (case ku => first | exact room1 hu rfl | ktr_units); intro t9 h9 tk9 F9 N9; (try dsimp only); (try k_fold)))
    | ((with_reducible show wpAny _ _ (call (Value.ref 176) _) _ _ _); k_dflt (refine' TellN.use1 (tell_control_text (by omega) (by omega)) ?k1 ?k2 ?k3 ?k4 ?k5 ?kK ?kd ?ku ?_; (case k1 => k_asm); (case k2 => k_asm); (case k3 => k_asm); (case k4 => k_asm); (case k5 => k_asm); (case kK => first | exact rfl | assumption); (case kd => first | exact room1 hd rfl | ktr_room); (case ku => first | exact room1 hu rfl | ktr_units); intro D9 t9 u9 h9 tk9 F9 N9 l9; (try dsimp only); (try k_fold)))
    | ((with_reducible show wpAny _ _ (call (Value.ref 155) _) _ _ _); k_dflt (refine' TellV.use (tell_letters_text ) ?k1 ?k2 ?k3 ?k4 ?k5 ?kK ?kd ?ku ?_; (case k1 => k_asm); (case k2 => k_asm); (case k3 => k_asm); (case k4 => k_asm); (case k5 => k_asm); (case kK => first | exact rfl | assumption); (case kd => first | exact room1 hd rfl | ktr_room); (case ku => first | exact room1 hu rfl | ktr_units); intro t9 h9 tk9 F9 N9; (try dsimp only); (try k_fold)))
    | ((with_reducible show wpAny _ _ (call (Value.ref 169) _) _ _ _); k_dflt (refine' TellV.use (tell_code_text (by omega) (by omega)) ?k1 ?k2 ?k3 ?k4 ?k5 ?kK ?kd ?ku ?_; (case k1 => k_asm); (case k2 => k_asm); (case k3 => k_asm); (case k4 => k_asm); (case k5 => k_asm); (case kK => first | exact rfl | assumption); (case kd => first | exact room1 hd rfl | ktr_room); (case ku => first | exact room1 hu rfl | ktr_units); intro t9 h9 tk9 F9 N9; (try dsimp only); (try k_fold)))
    | ((with_reducible show wpAny _ _ (call (Value.ref 80) _) _ _ _); k_dflt (refine' TellN.use1 (tell_split_name (by omega)) ?k1 ?k2 ?k3 ?k4 ?k5 ?kK ?kd ?ku ?_; (case k1 => k_asm); (case k2 => k_asm); (case k3 => k_asm); (case k4 => k_asm); (case k5 => k_asm); (case kK => first | exact rfl | assumption); (case kd => first | exact room1 hd rfl | ktr_room); (case ku => first | exact room1 hu rfl | ktr_units); intro D9 t9 u9 h9 tk9 F9 N9 l9; (try dsimp only); (try k_fold)))
    | ((with_reducible show wpAny _ _ (call (Value.ref 42) _) _ _ _); k_dflt (refine' TellV.use (tell_is_sign_int ) ?k1 ?k2 ?k3 ?k4 ?k5 ?kK ?kd ?ku ?_; (case k1 => k_asm); (case k2 => k_asm); (case k3 => k_asm); (case k4 => k_asm); (case k5 => k_asm); (case kK => first | exact rfl | assumption); (case kd => first | exact room1 hd rfl | ktr_room); (case ku => first | exact room1 hu rfl | ktr_units); intro t9 h9 tk9 F9 N9; (try dsimp only); (try k_fold)))
    | ((with_reducible show wpAny _ _ (call (Value.ref 42) _) _ _ _); k_dflt (refine' TellV.use (tell_is_sign_str ) ?k1 ?k2 ?k3 ?k4 ?k5 ?kK ?kd ?ku ?_; (case k1 => k_asm); (case k2 => k_asm); (case k3 => k_asm); (case k4 => k_asm); (case k5 => k_asm); (case kK => first | exact rfl | assumption); (case kd => first | exact room1 hd rfl | ktr_room); (case ku => first | exact room1 hu rfl | ktr_units); intro t9 h9 tk9 F9 N9; (try dsimp only); (try k_fold))))
  trivial
theorem tell_sign_text {w : World} {e : Int} {t : Tok} {news : Led} (h1 : codeOf e ≤ 1114111) :
   TellV w 183 [.int e t] news 20 160 (fun t => .str (Tx (signText e)) t) := by
  k_with "execs cons" => (k_here; with_reducible refine exs_cons fun _ => ?_; k_fold)
  have h0 := codeOf_range e
  have q1 := bits_len e
  have q2 := ctl_len (codeOf e) (Builtin.bitAnd e 134217728 != 0)
  have q3 := marks_len (Lst (Tx (bitLs e)))
  have q4 := codeText_len (codeOf e)
  have q5 := marks_len (Lst (Tx (bitLs e) ++ Tx (controlText (codeOf e) (Builtin.bitAnd e 134217728 != 0)).1))
  unfold codeOf at *
  have hfill : (PySem.Challenge.rw_np0049_01, hd.heap_39) = (PySem.Challenge.rw_np0049_01, hd.heap_39) := by k_fill; rfl
  clear hfill
  intro mean mg mb dp un gd cn cs a ccd cl outer A₀ base h₀ L m s Q E B F X N T hk hd hu hret
  refine wpAny_call ?_
  k_dflt (refine' code_defN ?k1 ?k2 ?k3 ?k4 ?k5 ?kA ?kF ?kK ?k6 ?k7 ?k8 ?k9 ?kB ?hl ?_ ?c2 ?c3 ?c4 ?c5; (case kA => exact rfl); (case kF => exact rfl); (case kK => assumption); (case k1 => k_asm); (case k2 => k_asm); (case k3 => k_asm); (case k4 => k_asm); (case k5 => k_asm); (case k6 => k_is); (case k7 => k_is); (case k8 => first | exact room0 hd | ktr_room); (case k9 => exact BindsTo.of_eq rfl); (case c5 => decide); (case kB => exact locs rfl); (case hl => first | exact (rfl : _ = [(_, _)]) | exact (rfl : _ = [(_, _), (_, _)]) | exact (rfl : _ = [(_, _), (_, _), (_, _)]) | exact rfl); (case c2 => exact rfl); (case c3 => exact rfl); (case c4 => exact rfl); k_whole; intro g' L' h' tkE FG' F' N' B' X' T'; (try dsimp only); (try k_lift B'); (try k_fold))
  (change let ev : Env := _; wpAny _ (Around.deeper _ ev) (execs _ ev) _ _ _)
  intro ev
  (change let Ax : Around := _; wpAny _ Ax (execs _ ev) _ _ _)
  intro Ax
  k_steps
  · refine cb_retS hret (eq_T ?_) (by k_asm) (cb_drop (by k_asm) (by kcj_all))
    unfold signText codeOf
    rw [if_pos (by assumption), lst_app, lst_Tx, lst_Tx, lst_app, lst_Tx, lst_Tx]
  · refine cb_retS hret (eq_T ?_) (by k_asm) (cb_drop (by k_asm) (by kcj_all))
    unfold signText codeOf
    rw [if_neg (by assumption), lst_app, lst_Tx, lst_Tx, lst_Tx]
theorem tell_name_text {w : World} {x : Str} {t : Tok} {news : Led} (hx : x.length ≤ 4000) :
   TellV w 190 [.str x t, .bool false] news 40 320 (fun t => .str (Tx (nameText (Lst x))) t) := by
  k_with "execs cons" => (k_here; with_reducible refine exs_cons fun _ => ?_; k_fold)
  have q1 : (Tx (ordL (splitN (Lst x)).1)).length ≤ 6 := by rw [T_len]; exact ord_len _
  have q2 : (Tx (splitN (Lst x)).2).length ≤ 4000 := by rw [T_len]; have := split_len (Lst x); rw [lst_len] at hx; omega
  have q3 := marks_len (Lst (Tx (ordL (splitN (Lst x)).1)))
  have hfill : (PySem.Challenge.rw_np0049_01, hd.heap_39) = (PySem.Challenge.rw_np0049_01, hd.heap_39) := by k_fill; rfl
  clear hfill
  intro mean mg mb dp un gd cn cs a ccd cl outer A₀ base h₀ L m s Q E B F X N T hk hd hu hret
  refine wpAny_call ?_
  k_dflt (refine' code_defN ?k1 ?k2 ?k3 ?k4 ?k5 ?kA ?kF ?kK ?k6 ?k7 ?k8 ?k9 ?kB ?hl ?_ ?c2 ?c3 ?c4 ?c5; (case kA => exact rfl); (case kF => exact rfl); (case kK => assumption); (case k1 => k_asm); (case k2 => k_asm); (case k3 => k_asm); (case k4 => k_asm); (case k5 => k_asm); (case k6 => k_is); (case k7 => k_is); (case k8 => first | exact room0 hd | ktr_room); (case k9 => exact BindsTo.of_eq rfl); (case c5 => decide); (case kB => exact locs rfl); (case hl => first | exact (rfl : _ = [(_, _)]) | exact (rfl : _ = [(_, _), (_, _)]) | exact (rfl : _ = [(_, _), (_, _), (_, _)]) | exact rfl); (case c2 => exact rfl); (case c3 => exact rfl); (case c4 => exact rfl); k_whole; intro g' L' h' tkE FG' F' N' B' X' T'; (try dsimp only); (try k_lift B'); (try k_fold))
  (change let ev : Env := _; wpAny _ (Around.deeper _ ev) (execs _ ev) _ _ _)
  intro ev
  (change let Ax : Around := _; wpAny _ Ax (execs _ ev) _ _ _)
  intro Ax
  k_steps
  refine cb_retS hret (eq_T ?_) (by k_asm) (cb_drop (by k_asm) (by kcj_all))
  unfold nameText
  rw [lst_app, lst_app, lst_app, lst_Tx, lst_Tx, lst_Tx, lt_lst, gt_lst]
theorem kc_0d2a847a912 : True := by
  k_with_none
  k_with "call ref cons" => (k_here; first
    | ((with_reducible show wpAny _ _ (call (Value.ref 42) _) _ _ _); k_dflt (refine' TellV.use (tell_is_sign_int ) ?k1 ?k2 ?k3 ?k4 ?k5 ?kK ?kd ?ku ?_; (case k1 => k_asm); (case k2 => k_asm); (case k3 => k_asm); (case k4 => k_asm); (case k5 => k_asm); (case kK => first | exact rfl | assumption); (case kd => first | exact room1 hd rfl | ktr_room); (case ku => first | exact room1 hu rfl | ktr_units); intro t9 h9 tk9 F9 N9; (try dsimp only); (try k_fold)))
    | ((with_reducible show wpAny _ _ (call (Value.ref 42) _) _ _ _); k_dflt (refine' TellV.use (tell_is_sign_str ) ?k1 ?k2 ?k3 ?k4 ?k5 ?kK ?kd ?ku ?_; (case k1 => k_asm); (case k2 => k_asm); (case k3 => k_asm); (case k4 => k_asm); (case k5 => k_asm); (case kK => first | exact rfl | assumption); (case kd => first | exact room1 hd rfl | ktr_room); (case ku => first | exact room1 hu rfl | ktr_units); intro t9 h9 tk9 F9 N9; (try dsimp only); (try k_fold)))
    | ((with_reducible show wpAny _ _ (call (Value.ref 183) _) _ _ _); k_dflt (refine' TellV.use (tell_sign_text (by assumption)) ?k1 ?k2 ?k3 ?k4 ?k5 ?kK ?kd ?ku ?_; (case k1 => k_asm); (case k2 => k_asm); (case k3 => k_asm); (case k4 => k_asm); (case k5 => k_asm); (case kK => first | exact rfl | assumption); (case kd => first | exact room1 hd rfl | ktr_room); (case ku => first | exact room1 hu rfl | ktr_units); intro t9 h9 tk9 F9 N9; (try dsimp only); (try k_fold)))
    | ((with_reducible show wpAny _ _ (call (Value.ref 190) _) _ _ _); k_dflt (refine' TellV.use (tell_name_text (by assumption)) ?k1 ?k2 ?k3 ?k4 ?k5 ?kK ?kd ?ku ?_; (case k1 => k_asm); (case k2 => k_asm); (case k3 => k_asm); (case k4 => k_asm); (case k5 => k_asm); (case kK => first | exact rfl | assumption); (case kd => first | exact room1 hd rfl | ktr_room); (case ku => first | exact room1 hu rfl | ktr_units); intro t9 h9 tk9 F9 N9; (try dsimp only); (try k_fold))))
  trivial
theorem tell_skd_int {w : World} {e : Int} {t : Tok} {news : Led} (h1 : codeOf e ≤ 1114111) :
   TellV w 198 [.int e t] news 22 176 (fun t => .str (Tx (keyText (.inl e))) t) := by
  k_with "execs cons" => (k_here; with_reducible refine exs_cons fun _ => ?_; k_fold)
  have hfill : (PySem.Challenge.rw_np0049_01, hd.heap_39) = (PySem.Challenge.rw_np0049_01, hd.heap_39) := by k_fill; rfl
  clear hfill
  intro mean mg mb dp un gd cn cs a ccd cl outer A₀ base h₀ L m s Q E B F X N T hk hd hu hret
  refine wpAny_call ?_
  k_dflt (refine' code_defN ?k1 ?k2 ?k3 ?k4 ?k5 ?kA ?kF ?kK ?k6 ?k7 ?k8 ?k9 ?kB ?hl ?_ ?c2 ?c3 ?c4 ?c5; (case kA => exact rfl); (case kF => exact rfl); (case kK => assumption); (case k1 => k_asm); (case k2 => k_asm); (case k3 => k_asm); (case k4 => k_asm); (case k5 => k_asm); (case k6 => k_is); (case k7 => k_is); (case k8 => first | exact room0 hd | ktr_room); (case k9 => exact binds_K (by k_in) rfl (by k_is) rfl rfl rfl); (case c5 => decide); (case kB => exact locs rfl); (case hl => first | exact (rfl : _ = [(_, _)]) | exact (rfl : _ = [(_, _), (_, _)]) | exact (rfl : _ = [(_, _), (_, _), (_, _)]) | exact rfl); (case c2 => exact rfl); (case c3 => exact rfl); (case c4 => exact rfl); k_whole; intro g' L' h' tkE FG' F' N' B' X' T'; (try dsimp only); (try k_lift B'); (try k_fold))
  (change let ev : Env := _; wpAny _ (Around.deeper _ ev) (execs _ ev) _ _ _)
  intro ev
  (change let Ax : Around := _; wpAny _ Ax (execs _ ev) _ _ _)
  intro Ax
  k_steps
  exact cb_retS hret rfl (by k_asm) (by k_asm)
theorem tell_skd_str {w : World} {x : Str} {t : Tok} {news : Led} (h1 : x.length ≤ 4000) :
   TellV w 198 [.str x t] news 42 336 (fun t => .str (Tx (keyText (.inr (Lst x)))) t) := by
  k_with "execs cons" => (k_here; with_reducible refine exs_cons fun _ => ?_; k_fold)
  have hfill : (PySem.Challenge.rw_np0049_01, hd.heap_39) = (PySem.Challenge.rw_np0049_01, hd.heap_39) := by k_fill; rfl
  clear hfill
  intro mean mg mb dp un gd cn cs a ccd cl outer A₀ base h₀ L m s Q E B F X N T hk hd hu hret
  refine wpAny_call ?_
  k_dflt (refine' code_defN ?k1 ?k2 ?k3 ?k4 ?k5 ?kA ?kF ?kK ?k6 ?k7 ?k8 ?k9 ?kB ?hl ?_ ?c2 ?c3 ?c4 ?c5; (case kA => exact rfl); (case kF => exact rfl); (case kK => assumption); (case k1 => k_asm); (case k2 => k_asm); (case k3 => k_asm); (case k4 => k_asm); (case k5 => k_asm); (case k6 => k_is); (case k7 => k_is); (case k8 => first | exact room0 hd | ktr_room); (case k9 => exact binds_K (by k_in) rfl (by k_is) rfl rfl rfl); (case c5 => decide); (case kB => exact locs rfl); (case hl => first | exact (rfl : _ = [(_, _)]) | exact (rfl : _ = [(_, _), (_, _)]) | exact (rfl : _ = [(_, _), (_, _), (_, _)]) | exact rfl); (case c2 => exact rfl); (case c3 => exact rfl); (case c4 => exact rfl); k_whole; intro g' L' h' tkE FG' F' N' B' X' T'; (try dsimp only); (try k_lift B'); (try k_fold))
  (change let ev : Env := _; wpAny _ (Around.deeper _ ev) (execs _ ev) _ _ _)
  intro ev
  (change let Ax : Around := _; wpAny _ Ax (execs _ ev) _ _ _)
  intro Ax
  k_steps
  exact cb_retS hret rfl (by k_asm) (by k_asm)
end
-- KbU
section
open PySem.Spec PySem.Calls PyProof.Rows.LCg
section
variable {prog : Program} {w : World} {A : Around} {E : Value → Shared → Prop} {s : Shared} {h₀ : Heap} {L : Addr} {m : Str → Option Value} {led rest : Led}
theorem news_head {h h' : Heap} {D : Addr} {o o' : Obj} (N : News h₀ L h led) (hm : (D, o) ∈ led) (hsub : ∀ p ∈ rest, p ∈ led) (hoff : ∀ p ∈ rest, p.1 ≠ D) (hs : Heap.SameBut D h h') (ho : h'.get? D = some o') : News h₀ L h' ((D, o') :: rest) := fun p hp => by
  rcases List.mem_cons.mp hp with rfl | hp
  · exact ⟨ho, (N _ hm).2⟩
  · exact ⟨(hs.2 p.1 (hoff p hp)).trans (N p (hsub p hp)).1, (N p (hsub p hp)).2⟩
theorem appendD {D : Addr} {xs : List Value} {n : Nat} {x : Value} {Q : Value → Shared → Prop} (F : Fr h₀ L s.heap m) (N : News h₀ L s.heap led) (hm : (D, listOf xs.toArray n) ∈ led) (hsub : ∀ p ∈ rest, p ∈ led) (hoff : ∀ p ∈ rest, p.1 ≠ D) (hsz : xs.length ≤ 16777216)
    (h : ∀ h', Fr h₀ L h' m → News h₀ L h' ((D, listOf (xs ++ [x]).toArray (n + 1)) :: rest) → Q .none { s with heap := h' }) : wpAny (model prog w) A (call (.builtin "list.append") [.ref D, x]) Q E s := by
  have z := N _ hm
  refine append_at (its := xs.toArray) (hsz := by simpa [sizeLine_eq] using hsz) z.1 fun h' hs ho' => h h' (F.change hs z.2.1 z.2.2) (news_head N hm hsub hoff hs ?_)
  rw [ho']; simp
theorem extendD {D b : Addr} {xs ys : List Value} {n k : Nat} {Q : Value → Shared → Prop} (F : Fr h₀ L s.heap m) (N : News h₀ L s.heap led) (hm : (D, listOf xs.toArray n) ∈ led) (hb : (b, listOf ys.toArray k) ∈ led) (hsub : ∀ p ∈ rest, p ∈ led) (hoff : ∀ p ∈ rest, p.1 ≠ D) (hsz : xs.length + ys.length ≤ 16777216)
    (h : ∀ n' h', Fr h₀ L h' m → News h₀ L h' ((D, listOf (xs ++ ys).toArray n') :: rest) → Q .none { s with heap := h' }) : wpAny (model prog w) A (call (.builtin "list.extend") [.ref D, .ref b]) Q E s := by
  have z := N _ hm
  have q := PySem.IsL.update z.1 (fun x => x ++ ys.toArray)
  have e : xs.toArray ++ ys.toArray = (xs ++ ys).toArray := by simp
  rw [e] at q
  refine call_meets PySem.F.slot_list_extend ⟨_, z.1, rfl⟩ PySem.F.entry_list_extend (PySem.F.args_list_extend_2 _ _) (PySem.AutoSeq1.list_extend_list_list_0 D xs.toArray n b ys.toArray k ?_ (by simp [sizeLine_eq]; omega) (by simp [sizeLine_eq]; omega))
    ⟨z.1, (N _ hb).1, h _ _ (F.change (Heap.SameBut.update ..) z.2.1 z.2.2) (news_head N hm hsub hoff (Heap.SameBut.update ..) q)⟩
  simp [Builtin.List.listTooLong, sizeLine_eq]
  intros
  omega
end
theorem map1 {m : Str → Option Value} {x : Str} {a : Value} (hx : m x = some a) : ∃ m' : Str → Option Value, m = fun z => if z = x then some a else m' z :=
  ⟨m, by funext z; by_cases h : z = x
         · rw [if_pos h, h, hx]
         · rw [if_neg h]⟩
theorem map2 {m : Str → Option Value} {x y : Str} {a b : Value} (hx : m x = some a) (hy : m y = some b) : ∃ m' : Str → Option Value, m = fun z => if z = x then some a else if z = y then some b else m' z :=
  ⟨m, by funext z; by_cases h : z = x
         · rw [if_pos h, h, hx]
         · rw [if_neg h]
           by_cases h : z = y
           · rw [if_pos h, h, hy]
           · rw [if_neg h]⟩
theorem map3 {m : Str → Option Value} {x y u : Str} {a b c : Value} (hx : m x = some a) (hy : m y = some b) (hu : m u = some c) : ∃ m' : Str → Option Value, m = fun z => if z = x then some a else if z = y then some b else if z = u then some c else m' z :=
  ⟨m, by funext z; by_cases h : z = x
         · rw [if_pos h, h, hx]
         · rw [if_neg h]
           by_cases h : z = y
           · rw [if_pos h, h, hy]
           · rw [if_neg h]
             by_cases h : z = u
             · rw [if_pos h, h, hu]
             · rw [if_neg h]⟩
section
variable {prog : Program} {w : World} {A : Around} {E : Value → Shared → Prop} {s : Shared} {env : Env} {h₀ : Heap} {x : Str} {body : List Stmt} {Q : Flow → Shared → Prop}
theorem iter_strN {xt : Str} {tx : Tok} {m₀ : Str → Option Value} {news : Led} (J : Nat → (Str → Option Value) → Led → Prop)
    (hh : A.handled = none) (F : Fr h₀ env.locals s.heap m₀) (N : News h₀ env.locals s.heap news) (hj : J 0 m₀ news)
    (turn : ∀ i c u m₁ news₁ h tk own, (Lst xt)[i]? = some c → news₁.map (·.1) = news.map (·.1) → OwnOff own (news.map (·.1)) → J i m₁ news₁ → Fr h₀ env.locals h (fun y => if y = x then some (.str ⟨#[c]⟩ u) else m₁ y) → News h₀ env.locals h (news₁ ++ own) →
      wpAny (model prog w) A (execs body env) (InvPostN h₀ env.locals (J (i + 1)) own (news.map (·.1)) { s with heap := h, toks := tk } Q) E { s with heap := h, toks := tk })
    (done : ∀ m₁ news₁ h tk, J (Lst xt).length m₁ news₁ → Fr h₀ env.locals h m₁ → News h₀ env.locals h news₁ → Q .next { s with heap := h, toks := tk }) :
    wpAny (model prog w) A (pyIter (.str xt tx)) (fun it s₂ => LoopAtV prog w A h₀ env x body Q E it s₂) E s := by
  refine wpAny_pyIter_str fun o St hW hst => ?_
  have W := hW A hh
  refine loop_invN J W ?_ ?_ ?_ ?_ hst (F.push _) (fun p hp => ⟨Heap.get?_push_of_some _ (N p hp).1, (N p hp).2⟩) hj ?_ ?_
  · intro hm
    exact absurd F.ns.lt ((List.mem_singleton.mp hm) ▸ Nat.lt_irrefl _)
  · intro b' hb
    rw [List.mem_singleton.mp hb]
    exact next_is_new F
  · intro p hp hI
    exact absurd (Heap.lt_size (N p hp).1) ((List.mem_singleton.mp hI) ▸ Nat.lt_irrefl _)
  · intro p hp hI
    exact absurd (Heap.lt_size (N p hp).1) ((List.mem_singleton.mp hI) ▸ Nat.lt_irrefl _)
  · rintro i v m₁ nx h tk own hi ⟨c, u, hn, rfl⟩ hadr hoff hJ F₁ N₁
    exact turn i c u m₁ nx h tk own (by rw [← hn, Lst, Array.getElem?_toList]) hadr hoff hJ F₁ N₁
  · intro m₁ nx h tk hJ F₁ N₁
    have e : xt.cps.size = (Lst xt).length := by simp [Lst]
    rw [e] at hJ
    exact done m₁ nx h tk hJ F₁ N₁
end
theorem splitD {prog : Program} {w : World} {A : Around} {E : Value → Shared → Prop} {s : Shared} {h₀ : Heap} {L : Addr} {m : Str → Option Value} {news : Led} {x y : Str} {t u : Tok} {Q : Value → Shared → Prop} (F : Fr h₀ L s.heap m) (N : News h₀ L s.heap news) (hy : (y.length == 0) = false) (hsz : x.length ≤ 16777000)
    (h : ∀ D vs h' k, StrsAre vs (Txt.split x y) → (∀ a ∈ Txt.split x y, a.length ≤ x.length) → Fr h₀ L h' m → News h₀ L h' ((D, listOf vs.toArray 0) :: news) → (∀ p ∈ news, p.1 < D) → Q (.ref D) { s with heap := h', toks := k }) :
    wpAny (model prog w) A (call (.builtin "str.split") [.str x t, .str y u]) Q E s := by
  refine splitN1A F N hy (fun l h' k e1 e2 e3 _ F' N' => ?_) (by simp [sizeLine_eq]; omega)
  rw [e1] at e2 e3
  exact h _ _ h' k e2 e3 F' N' (new_lt N)
theorem sub_head {x : Addr × Obj} {l own : Led} : ∀ p ∈ x :: l, p ∈ x :: (l ++ own) := fun p hp => by
  rcases List.mem_cons.mp hp with rfl | hp
  · exact .head _
  · exact .tail _ (List.mem_append_left _ hp)
theorem sub_own {x : Addr × Obj} {l own : Led} : ∀ p ∈ own, p ∈ x :: (l ++ own) := fun p hp => .tail _ (List.mem_append_right _ hp)
end
-- KbM
theorem zz_KbM {prog : Program} {w : World} {A : Around} {env : Env} {E : Value → Shared → Prop} {s : Shared} {Q : Flow → Shared → Prop} (h : Q .next s) : wpAny (model prog w) A (execs [] env) Q E s := by
  k_with_none
  walk1
  exact h
section
theorem blanks_lst : Lst (Str.ofString " \t\n\x0c\r") = [32, 9, 10, 12, 13] := by decide +kernel
theorem blank_in {n : Nat} {b : Bool} (e : (Builtin.Str.occurrences (Str.ofString " \t\n\x0c\r") { cps := #[n] } 0 (Str.ofString " \t\n\x0c\r").length 1).isEmpty = b) : isBlank n = !b := by
  have q := in_one (Str.ofString " \t\n\x0c\r") n
  rw [show Tx [n] = ⟨#[n]⟩ from rfl, e, blanks_lst] at q
  rw [q]
  unfold isBlank
  simp only [List.contains_cons, List.contains_nil, Bool.or_false, Bool.beq_eq_decide_eq, Bool.or_assoc]
def blankP (pre : List Nat) (word : Str) (found : List Str) : Prop :=
  (∀ rest, blankGo [] (pre ++ rest) = found.map Lst ++ blankGo (Lst word) rest) ∧ word.length ≤ pre.length ∧ found.length ≤ pre.length ∧ (∀ q, pre = q ++ [32] → Lst word = [])
theorem blankP_start : blankP [] (Str.ofString "") [] := by
  refine ⟨fun rest => ?_, ?_, Nat.le_refl _, fun q h => ?_⟩
  · rw [nil_lst]; rfl
  · rw [lst_len, nil_lst]; exact Nat.le_refl _
  · exact nil_lst
theorem blankP_end {pre : List Nat} {n : Nat} {word : Str} {found : List Str} (h : blankP pre word found) (hb : (Builtin.Str.occurrences (Str.ofString " \t\n\x0c\r") { cps := #[n] } 0 (Str.ofString " \t\n\x0c\r").length 1).isEmpty = false) (hw : (word != Str.ofString "") = true) :
    blankP (pre ++ [n]) (Str.ofString "") (found ++ [word]) := by
  obtain ⟨h1, h2, h3, h4⟩ := h
  have hb' := blank_in hb
  rw [bne_lst, nil_lst] at hw
  have hw' : Lst word ≠ [] := by simpa using hw
  refine ⟨fun rest => ?_, ?_, ?_, fun q h => nil_lst⟩
  · rw [List.append_assoc, h1]
    show _ ++ blankGo (Lst word) (n :: rest) = _
    rw [blankGo, if_pos (by rw [hb']; rfl), if_neg hw', nil_lst]
    simp
  · rw [lst_len, nil_lst]; exact Nat.zero_le _
  · simp only [List.length_append, List.length_cons, List.length_nil]; omega
theorem blankP_more {pre : List Nat} {n : Nat} {word : Str} {found : List Str} (h : blankP pre word found) (hb : (Builtin.Str.occurrences (Str.ofString " \t\n\x0c\r") { cps := #[n] } 0 (Str.ofString " \t\n\x0c\r").length 1).isEmpty = false) (hw : (word != Str.ofString "") = false) :
    blankP (pre ++ [n]) (Str.ofString "") found := by
  obtain ⟨h1, h2, h3, h4⟩ := h
  have hb' := blank_in hb
  rw [bne_lst, nil_lst] at hw
  have hw' : Lst word = [] := by simpa using hw
  refine ⟨fun rest => ?_, ?_, ?_, fun q h => nil_lst⟩
  · rw [List.append_assoc, h1]
    show _ ++ blankGo (Lst word) (n :: rest) = _
    rw [blankGo, if_pos (by rw [hb']; rfl), if_pos hw', nil_lst]
  · rw [lst_len, nil_lst]; exact Nat.zero_le _
  · simp only [List.length_append, List.length_cons, List.length_nil]; omega
theorem blankP_sign {pre : List Nat} {n : Nat} {word : Str} {found : List Str} (h : blankP pre word found) (hb : (Builtin.Str.occurrences (Str.ofString " \t\n\x0c\r") { cps := #[n] } 0 (Str.ofString " \t\n\x0c\r").length 1).isEmpty = true) :
    blankP (pre ++ [n]) (word ++ ({ cps := #[n] } : Str)) found := by
  obtain ⟨h1, h2, h3, h4⟩ := h
  have hb' := blank_in hb
  refine ⟨fun rest => ?_, ?_, ?_, fun q h => ?_⟩
  · rw [List.append_assoc, h1]
    show _ ++ blankGo (Lst word) (n :: rest) = _
    rw [blankGo, if_neg (by rw [hb']; simp), lst_app]
    rfl
  · rw [lst_len, lst_app]
    rw [lst_len] at h2
    simp only [List.length_append, List.length_cons, List.length_nil]
    show _ + 1 ≤ _ + 1
    omega
  · simp only [List.length_append, List.length_cons, List.length_nil]; omega
  · have := (List.append_inj' h rfl).2
    have hn : n = 32 := by simpa using this
    subst hn
    simp [isBlank] at hb'
theorem blankGo_pad : ∀ (l w : List Nat), blankGo w (l ++ [32]) = blankGo w l
  | [], w => by
    show (if isBlank 32 = true then (if w = [] then blankGo [] [] else w :: blankGo [] []) else _) = (if w = [] then [] else [w])
    rw [if_pos (by decide)]
    by_cases h : w = []
    · rw [if_pos h, if_pos h]; rfl
    · rw [if_neg h, if_neg h]; rfl
  | c :: r, w => by
    show blankGo w (c :: (r ++ [32])) = _
    rw [blankGo, blankGo, blankGo_pad r [], blankGo_pad r (w ++ [c])]
theorem blankP_done {x : List Nat} {word : Str} {found : List Str} (h : blankP (x ++ [32]) word found) : found = (blankGo [] x).map Tx := by
  obtain ⟨h1, _, _, h4⟩ := h
  have := h1 []
  rw [h4 _ rfl, List.append_nil, blankGo_pad] at this
  rw [this]
  show found = (found.map Lst ++ (if ([] : List Nat) = [] then [] else [[]])).map Tx
  rw [if_pos rfl, List.append_nil, List.map_map]
  exact ((List.map_congr_left fun l _ => T_lst l).trans (List.map_id _)).symm
theorem sp_lst : Lst (Str.ofString " ") = [32] := by decide +kernel
theorem take_step {l : List Nat} {i c : Nat} (h : l[i]? = some c) : l.take (i + 1) = l.take i ++ [c] := by rw [List.take_add_one, h]; rfl
theorem off_own {own news : Led} {D : Addr} (l1 : ∀ p ∈ news, p.1 < D) (hoff : OwnOff own (D :: news.map (·.1))) : ∀ p ∈ news ++ own, p.1 ≠ D := fun p hp => by
  rcases List.mem_append.mp hp with h | h
  · exact Nat.ne_of_lt (l1 p h)
  · exact hoff p h D (.head _)
/-- what the loop over a line keeps -/
def blankJ (D : Addr) (news : Led) (y : List Nat) (i : Nat) (m : Str → Option Value) (nx : Led) : Prop :=
  ∃ vs n word wt found, nx = (D, listOf vs.toArray n) :: news ∧ m (Str.ofString "word") = some (.str word wt) ∧ m (Str.ofString "found") = some (.ref D) ∧ StrsAre vs found ∧ blankP (y.take i) word found
section
local macro_rules | `(tactic| walk_at "exec For Name BinOp cons nil") => `(tactic| (k_here; (rename Fr _ _ _ _ => lF'); (with_unfolding_all refine' For_invVF lF' ?k1 ?k2 ?_; (case k1 => exact rfl); (case k2 => exact rfl); k_whole)))
local macro_rules | `(tactic| walk_at "pyIter str") => `(tactic| (k_here; with_reducible refine held_ ?_))
theorem tell_blank_words {w : World} {x : Str} {t : Tok} {news : Led} (hx : x.length ≤ 4000) :
   TellN w 226 [.str x t] news 4 32 (SListO (blankGo [] (Lst x))) := by
  have hy : Lst (x ++ Str.ofString " ") = Lst x ++ [32] := by rw [lst_app, sp_lst]
  have hyl : (Lst x ++ [32]).length ≤ 4001 := by rw [lst_len] at hx; simp; omega
  k_with_none
  k_with "execs cons" => (k_here; with_reducible refine exs_cons fun _ => ?_; k_fold)
  k_with "call builtin:list.append" => (k_here; with_reducible refine held_ ?_)
  have hfill : (PySem.Challenge.rw_np0049_01, hd.heap_39) = (PySem.Challenge.rw_np0049_01, hd.heap_39) := by k_fill; rfl
  clear hfill
  intro mean mg mb dp un gd cn cs a ccd cl outer A₀ base h₀ L m s Q E B F X N T hk hd hu hret
  refine wpAny_call ?_
  k_dflt (refine' code_defN ?k1 ?k2 ?k3 ?k4 ?k5 ?kA ?kF ?kK ?k6 ?k7 ?k8 ?k9 ?kB ?hl ?_ ?c2 ?c3 ?c4 ?c5; (case kA => exact rfl); (case kF => exact rfl); (case kK => assumption); (case k1 => k_asm); (case k2 => k_asm); (case k3 => k_asm); (case k4 => k_asm); (case k5 => k_asm); (case k6 => k_is); (case k7 => k_is); (case k8 => first | exact room0 hd | ktr_room); (case k9 => exact BindsTo.of_eq rfl); (case c5 => decide); (case kB => exact locs rfl); (case hl => first | exact (rfl : _ = [(_, _)]) | exact (rfl : _ = [(_, _), (_, _)]) | exact (rfl : _ = [(_, _), (_, _), (_, _)]) | exact rfl); (case c2 => exact rfl); (case c3 => exact rfl); (case c4 => exact rfl); k_whole; intro g' L' h' tkE FG' F' N' B' X' T'; (try dsimp only); (try k_lift B'); (try k_fold))
  (change let ev : Env := _; wpAny _ (Around.deeper _ ev) (execs _ ev) _ _ _)
  intro ev
  (change let Ax : Around := _; wpAny _ Ax (execs _ ev) _ _ _)
  intro Ax
  k_steps
  refine heldI (iter_strN (blankJ _ news (Lst x ++ [32])) (by rfl) (by k_asm) (by k_asm) ⟨[], 0, _, _, [], rfl, rfl, rfl, .nil, blankP_start⟩ ?_ ?_)
  · rintro i c u m₁ nx h tk own hc hadr hoff ⟨vs, n, word, wt, found, rfl, hm1, hm2, hv, hP⟩ F₁ N₁
    rw [hy] at hc
    obtain ⟨m', rfl⟩ := map2 hm1 hm2
    have hl : ((Lst x ++ [32]).take i).length ≤ 4001 := by rw [List.length_take]; omega
    have hw : word.length ≤ 4001 := Nat.le_trans hP.2.1 hl
    have hf : vs.length ≤ 4001 := by rw [hv.length]; exact Nat.le_trans hP.2.2.1 hl
    k_steps
    · exact InvEndN.intro (by k_asm) (by k_asm) ⟨vs, n, _, _, found, rfl, by rfl, by rfl, hv, (take_step hc) ▸ blankP_sign hP (by assumption)⟩ rfl (by kstt_sub) (by kstt_sub)
    · refine heldI (appendD (rest := news ++ own) (by k_asm) (by k_asm) (by k_mem) (by kstt_sub) (off_own (by assumption) hoff) (by omega) fun h1 F1 N1 => ?_)
      k_steps
      exact InvEndN.intro (by k_asm) (by k_asm) ⟨vs ++ [.str word wt], n + 1, _, _, found ++ [word], rfl, by rfl, by rfl, hv.append' (.cons _ _ .nil), (take_step hc) ▸ blankP_end hP (by assumption) (by assumption)⟩ rfl (by kstt_sub) (by kstt_sub)
    · exact InvEndN.intro (by k_asm) (by k_asm) ⟨vs, n, _, _, found, rfl, by rfl, by rfl, hv, (take_step hc) ▸ blankP_more hP (by assumption) (by assumption)⟩ rfl (by kstt_sub) (by kstt_sub)
  · rintro m₁ nx h tk ⟨vs, n, word, wt, found, rfl, hm1, hm2, hv, hP⟩ F₁ N₁
    obtain ⟨m', rfl⟩ := map2 hm1 hm2
    rw [hy, List.take_length] at hP
    k_steps
    exact retN hret (by k_asm) (by k_asm) (by first | assumption | exact lt_nes (by assumption) | exact fn1 (by assumption) | exact fn2 (by assumption) | exact fr1 (by assumption) | exact fr2 (by assumption) | exact fr3 (by assumption)) ⟨vs, n, by rw [← blankP_done hP]; exact hv, rfl⟩
end
end
-- KbO
section
theorem digits_lst : Lst (Str.ofString "0123456789") = [48, 49, 50, 51, 52, 53, 54, 55, 56, 57] := by decide +kernel
theorem digit_in {n : Nat} {b : Bool} (e : (Builtin.Str.occurrences (Str.ofString "0123456789") (Tx [n]) 0 (Str.ofString "0123456789").length 1).isEmpty = b) : isDigit n = !b := by
  have q := in_one (Str.ofString "0123456789") n
  rw [e, digits_lst] at q
  rw [q]
  unfold isDigit
  simp only [List.contains_cons, List.contains_nil, Bool.or_false, Bool.beq_eq_decide_eq]
  rw [Bool.eq_iff_iff]
  simp only [decide_eq_true_eq, Bool.or_eq_true]
  omega
def digP (x : Str) (at_ : Int) : Prop := 0 ≤ at_ ∧ at_ ≤ (x.length : Int) ∧ ∀ (k : Nat) (c : Nat), (k : Int) < at_ → (Lst x)[k]? = some c → isDigit c = true
theorem digP_start (x : Str) : digP x 0 := ⟨by omega, by omega, fun k c hk => by omega⟩
theorem digP_turn {x : Str} {a : Int} (h : digP x a) (h2 : a < (x.length : Int)) (h3 : (Builtin.Str.occurrences (Str.ofString "0123456789") (Txt.item x a) 0 (Str.ofString "0123456789").length 1).isEmpty = false) : digP x (a + 1) := by
  obtain ⟨h0, h1, hd⟩ := h
  refine ⟨by omega, by omega, fun k c hk hc => ?_⟩
  by_cases e : (k : Int) < a
  · exact hd k c e hc
  · have : (k : Int) = a := by omega
    subst this
    rw [item_at hc] at h3
    exact digit_in h3
theorem digP_less {x : Str} {a : Int} (h : digP x a) (h2 : a < (x.length : Int)) : x.length - (a + 1).toNat < x.length - a.toNat := by
  have := h.1
  omega
theorem tw_ge : ∀ (l : List Nat) (a : Nat), a ≤ l.length → (∀ (k c : Nat), k < a → l[k]? = some c → isDigit c = true) → a ≤ (l.takeWhile isDigit).length
  | _, 0, _, _ => Nat.zero_le _
  | [], a + 1, h, _ => by simp at h
  | c :: r, a + 1, h, hd => by
    rw [List.takeWhile_cons, hd 0 c (by omega) rfl]
    simp only [if_true, List.length_cons]
    have := tw_ge r a (by simpa using h) fun k d hk hc => hd (k + 1) d (by omega) (by simpa using hc)
    omega
theorem tw_le : ∀ (l : List Nat) (a c : Nat), l[a]? = some c → isDigit c = false → (l.takeWhile isDigit).length ≤ a
  | [], _, _, h, _ => by simp at h
  | d :: r, 0, c, h, hc => by
    have : d = c := by simpa using h
    subst this
    rw [List.takeWhile_cons, hc]; simp
  | d :: r, a + 1, c, h, hc => by
    rw [List.takeWhile_cons]
    split
    · have := tw_le r a c (by simpa using h) hc
      simp only [List.length_cons]; omega
    · simp
theorem dig_ge {x : Str} {a : Int} (h : digP x a) : a ≤ (digitsAt (Lst x) : Int) := by
  obtain ⟨h0, h1, hd⟩ := h
  rw [lst_len] at h1
  have := tw_ge (Lst x) a.toNat (by omega) fun k c hk hc => hd k c (by omega) hc
  unfold digitsAt
  omega
theorem dig_exit1 {x : Str} {a : Int} (h : digP x a) (h2 : ¬ a < (x.length : Int)) : a = (digitsAt (Lst x) : Int) := by
  have h3 := dig_ge h
  have h4 : (digitsAt (Lst x)) ≤ (Lst x).length := (List.takeWhile_sublist _).length_le
  rw [lst_len] at h2
  omega
theorem dig_exit2 {x : Str} {a : Int} (h : digP x a) (h2 : a < (x.length : Int)) (h3 : (Builtin.Str.occurrences (Str.ofString "0123456789") (Txt.item x a) 0 (Str.ofString "0123456789").length 1).isEmpty = true) : a = (digitsAt (Lst x) : Int) := by
  have h4 := dig_ge h
  obtain ⟨h0, h1, hd⟩ := h
  rw [lst_len] at h2
  obtain ⟨n, rfl⟩ : ∃ n : Nat, a = (n : Int) := ⟨a.toNat, by omega⟩
  have hc : (Lst x)[n]? = some (Lst x)[n] := by simp [(by omega : n < (Lst x).length)]
  rw [item_at hc] at h3
  have := tw_le (Lst x) n _ hc (digit_in h3)
  unfold digitsAt at h4 ⊢
  omega
theorem slice_one (x : Str) (n : Nat) : Lst (Txt.slice x (some (n : Int)) (some ((n : Int) + 1))) = ((Lst x)[n]?).toList := by
  have := slice_mid x n (n + 1)
  rw [show ((n + 1 : Nat) : Int) = (n : Int) + 1 by omega] at this
  rw [this, show n + 1 - n = 1 by omega]
  cases h : (Lst x)[n]? with
  | none => rw [List.drop_of_length_le (by simpa using h)]; rfl
  | some c => rw [List.drop_eq_getElem_cons (List.getElem?_eq_some_iff.mp h).1, (List.getElem?_eq_some_iff.mp h).2]; rfl
theorem star_lst : Lst (Str.ofString "*") = [42] := by decide +kernel
theorem not_star {x : Str} {a : Int} (e : a = (digitsAt (Lst x) : Int)) (h : (Txt.slice x (some a) (some (a + 1)) != Str.ofString "*") = true) : (Lst x)[digitsAt (Lst x)]? ≠ some 42 := by
  subst e
  rw [bne_lst, slice_one, star_lst] at h
  intro q
  rw [q] at h
  simp at h
theorem is_star {x : Str} {a : Int} (e : a = (digitsAt (Lst x) : Int)) (h : (Txt.slice x (some a) (some (a + 1)) != Str.ofString "*") = false) : (Lst x)[digitsAt (Lst x)]? = some 42 := by
  subst e
  rw [bne_lst, slice_one, star_lst] at h
  cases q : (Lst x)[digitsAt (Lst x)]? with
  | none => rw [q] at h; simp at h
  | some c => rw [q] at h; simp at h; rw [h]
theorem dig_text : ∀ d : Nat, d < 10 → PySem.intText? (Tx [d + 48]) = some (d : Int) := by decide +kernel
/-- a number and a text -/
def TimesO (n : Nat) (r : List Nat) (o : Obj) : Prop := ∃ t u, o = { cls := .type "tuple", data := .seq #[.int (n : Int) t, .str (Tx r) u] }
theorem timesO_whole {x : Str} {t u : Tok} {n : Nat} {r : List Nat} (ht : timesOf (Lst x) = some (n, r)) (h : digitsAt (Lst x) = 0 ∨ (Lst x)[digitsAt (Lst x)]? ≠ some 42 ∨ (Lst x).length = digitsAt (Lst x) + 1) : TimesO n r { cls := .type "tuple", data := .seq #[.int 1 t, .str x u] } := by
  unfold timesOf at ht
  rw [if_pos h] at ht
  cases ht
  exact ⟨t, u, by rw [T_lst]; rfl⟩
theorem timesO_part {x : Str} {t u : Tok} {n : Nat} {r : List Nat} {a m : Int} (ht : timesOf (Lst x) = some (n, r)) (hd : digitsAt (Lst x) ≤ 1) (e : a = (digitsAt (Lst x) : Int)) (h0 : a ≠ 0) (h1 : (Txt.slice x (some a) (some (a + 1)) != Str.ofString "*") = false) (h2 : (x.length : Int) ≠ a + 1)
    (hm : m = (numOf ((Lst x).take 1) : Int)) : TimesO n r { cls := .type "tuple", data := .seq #[.int m t, .str (Txt.slice x (some (a + 1)) none) u] } := by
  have e1 : digitsAt (Lst x) = 1 := by omega
  have h3 := is_star e h1
  unfold timesOf at ht
  rw [if_neg (by rw [lst_len] at h2; rw [e1] at h3 ⊢; rintro (q | q | q) <;> first | omega | exact q h3), if_neg (by omega), e1] at ht
  cases ht
  subst e
  rw [e1]
  have hs : Lst (Txt.slice x (some (((1 : Nat) : Int) + 1)) none) = (Lst x).drop (1 + 1) := slice_from x 2
  refine ⟨t, u, ?_⟩
  rw [hm, eq_T hs]
theorem num_one {x : Str} {a : Int} (hd : digitsAt (Lst x) ≤ 1) (e : a = (digitsAt (Lst x) : Int)) (h0 : a ≠ 0) : PySem.intText? (Txt.slice x none (some a)) = some (numOf ((Lst x).take 1) : Int) ∧ (Txt.slice x none (some a)).length ≤ 640 := by
  have e1 : digitsAt (Lst x) = 1 := by omega
  subst e
  rw [e1]
  have hs := slice_to x 1
  have hx : ∃ c r, Lst x = c :: r ∧ isDigit c = true := by
    cases hl : Lst x with
    | nil => rw [hl] at e1; simp [digitsAt] at e1
    | cons c r =>
      refine ⟨c, r, rfl, ?_⟩
      rw [hl] at e1
      unfold digitsAt at e1
      rw [List.takeWhile_cons] at e1
      split at e1
      · assumption
      · simp at e1
  obtain ⟨c, r, hl, hc⟩ := hx
  rw [hl] at hs ⊢
  have hs' : Txt.slice x none (some ((1 : Nat) : Int)) = Tx [c] := eq_T hs
  rw [hs']
  unfold isDigit at hc
  have hc' := of_decide_eq_true hc
  obtain ⟨d, rfl⟩ : ∃ d, c = d + 48 := ⟨c - 48, by omega⟩
  refine ⟨?_, by rw [T_len]; simp⟩
  rw [dig_text d (by omega)]
  simp [numOf]
section
theorem tell_times_of {w : World} {x : Str} {t : Tok} {news : Led} {n : Nat} {r : List Nat} (hx : x.length ≤ 4000) (hdd : digitsAt (Lst x) ≤ 1) (ht : timesOf (Lst x) = some (n, r)) :
   TellN w 233 [.str x t] news 8 64 (TimesO n r) := by
  k_with_none
  k_with "execs cons" => (k_here; with_reducible refine exs_cons fun _ => ?_; k_fold)
  k_with "call type:int" => (k_here; with_reducible refine held_ ?_)
  k_with "exec While BoolOp cons nil" => k_while (fun _ at_ => 0 ≤ at_ ∧ at_ ≤ (x.length : Int) ∧ digP x at_) (fun _ at_ => x.length - at_.toNat) "at"
  k_with "state" => first | exact ⟨by omega, by omega, digP_start x⟩ | exact ⟨by omega, by omega, digP_turn (by assumption) (by assumption) (by assumption)⟩
  k_with "measure" => exact digP_less (by assumption) (by assumption)
  have hfill : (PySem.Challenge.rw_np0049_01, hd.heap_39) = (PySem.Challenge.rw_np0049_01, hd.heap_39) := by k_fill; rfl
  clear hfill
  intro mean mg mb dp un gd cn cs a ccd cl outer A₀ base h₀ L m s Q E B F X N T hk hd hu hret
  refine wpAny_call ?_
  k_dflt (refine' code_defN ?k1 ?k2 ?k3 ?k4 ?k5 ?kA ?kF ?kK ?k6 ?k7 ?k8 ?k9 ?kB ?hl ?_ ?c2 ?c3 ?c4 ?c5; (case kA => exact rfl); (case kF => exact rfl); (case kK => assumption); (case k1 => k_asm); (case k2 => k_asm); (case k3 => k_asm); (case k4 => k_asm); (case k5 => k_asm); (case k6 => k_is); (case k7 => k_is); (case k8 => first | exact room0 hd | ktr_room); (case k9 => exact BindsTo.of_eq rfl); (case c5 => decide); (case kB => exact locs rfl); (case hl => first | exact (rfl : _ = [(_, _)]) | exact (rfl : _ = [(_, _), (_, _)]) | exact (rfl : _ = [(_, _), (_, _), (_, _)]) | exact rfl); (case c2 => exact rfl); (case c3 => exact rfl); (case c4 => exact rfl); k_whole; intro g' L' h' tkE FG' F' N' B' X' T'; (try dsimp only); (try k_lift B'); (try k_fold))
  (change let ev : Env := _; wpAny _ (Around.deeper _ ev) (execs _ ev) _ _ _)
  intro ev
  (change let Ax : Around := _; wpAny _ Ax (execs _ ev) _ _ _)
  intro Ax
  k_steps
  all_goals (first | (have hE := dig_exit1 (x := x) (by assumption) (by assumption)) | (have hE := dig_exit2 (x := x) (by assumption) (by assumption) (by assumption)))
  all_goals first
    | exact retN hret (by k_asm) (by k_asm) (by first | assumption | exact lt_nes (by assumption) | exact fn1 (by assumption) | exact fn2 (by assumption) | exact fr1 (by assumption) | exact fr2 (by assumption) | exact fr3 (by assumption)) (timesO_whole ht (.inl (by omega)))
    | exact retN hret (by k_asm) (by k_asm) (by first | assumption | exact lt_nes (by assumption) | exact fn1 (by assumption) | exact fn2 (by assumption) | exact fr1 (by assumption) | exact fr2 (by assumption) | exact fr3 (by assumption)) (timesO_whole ht (.inr (.inl (not_star hE (by assumption)))))
    | exact retN hret (by k_asm) (by k_asm) (by first | assumption | exact lt_nes (by assumption) | exact fn1 (by assumption) | exact fn2 (by assumption) | exact fr1 (by assumption) | exact fr2 (by assumption) | exact fr3 (by assumption)) (timesO_whole ht (.inr (.inr (by rw [← lst_len]; omega))))
    | (exfalso; omega)
    | skip
  all_goals refine heldI (KIN.call_text (num_one hdd hE (by assumption)).1 (num_one hdd hE (by assumption)).2 ?_)
  all_goals k_steps
  all_goals exact retN2 hret (by k_asm) (by k_asm) (by k_mem) (by kcj_all) (by first | assumption | exact lt_nes (by assumption) | exact fn1 (by assumption) | exact fn2 (by assumption) | exact fr1 (by assumption) | exact fr2 (by assumption) | exact fr3 (by assumption)) (timesO_part ht hdd hE (by assumption) (by assumption) (by assumption) rfl)
end
end
-- KbV
section
noncomputable def deckO (S : Addr) (k : Int) (t : Tok) (n : Nat) : Obj := listOf #[.ref S, .int k t] n
/-- a draw: the deck goes on, a value comes back -/
def TellD (w : World) (f : Addr) (vs : List Value) (D S : Addr) (k c : Int) (od : Obj) (news : Led) (d u : Nat) (R : Value → Prop) : Prop :=
  ∀ (mean : ExcName → Option Value) (mg mb : Str → Option Value) (dp un : Nat) (gd : Option (List Code)) (cn : Str) (cs : Scope) (a : Addr) (ccd : Value) (cl : List (Str × Addr)) (outer : List Env) (A₀ : Around) (base h₀ : Heap) (L : Addr) (m : Str → Option Value) (s : Shared) (Q E : Value → Shared → Prop),
    Below A₀ base outer h₀ → Fr h₀ L s.heap m → (hd.heap_39 w.params).In h₀ → News h₀ L s.heap ((D, od) :: news) → Top hd.view_39 LS mean mg mb h₀ → cs.kind = .function → dp + d < recursionLimit → un + u < cLine →
    (∀ r k' t' n' h' tk', Fr h₀ L h' m → News h₀ L h' ((D, deckO S k' t' n') :: news) → k ≤ k' → k' ≤ k + c → R r → Q r { s with heap := h', toks := tk' }) →
    wpAny (model PySem.Challenge.pw_np0049_01 w) (ktrTop dp un gd cn cs L a ccd cl outer) (call (.ref f) vs) Q E s
theorem TellD.use {w : World} {f : Addr} {vs : List Value} {D S : Addr} {k c : Int} {od : Obj} {news : Led} {d u : Nat} {R : Value → Prop} (C : TellD w f vs D S k c od news d u R)
  {mean : ExcName → Option Value} {mg mb : Str → Option Value} {dp un : Nat} {gd : Option (List Code)} {cn : Str} {cs : Scope} {a : Addr} {ccd : Value} {cl : List (Str × Addr)} {outer : List Env} {A₀ : Around} {base h₀ : Heap} {L : Addr} {m : Str → Option Value} {s : Shared} {Q E : Value → Shared → Prop}
  (B : Below A₀ base outer h₀) (F : Fr h₀ L s.heap m) (X : (hd.heap_39 w.params).In h₀) (N : News h₀ L s.heap ((D, od) :: news)) (T : Top hd.view_39 LS mean mg mb h₀) (hk : cs.kind = .function) (hd : dp + d < recursionLimit) (hu : un + u < cLine)
  (ret : ∀ r k' t' n' h' tk', Fr h₀ L h' m → News h₀ L h' ((D, deckO S k' t' n') :: news) → k ≤ k' → k' ≤ k + c → R r → Q r { s with heap := h', toks := tk' }) :
    wpAny (model PySem.Challenge.pw_np0049_01 w) (ktrTop dp un gd cn cs L a ccd cl outer) (call (.ref f) vs) Q E s :=
  C mean mg mb dp un gd cn cs a ccd cl outer A₀ base h₀ L m s Q E B F X N T hk hd hu ret
theorem set_deck {prog : Program} {w : World} {A : Around} {E : Value → Shared → Prop} {s : Shared} {h₀ : Heap} {L : Addr} {m : Str → Option Value} {news : Led} {D S : Addr} {k k' : Int} {t t' u : Tok} {n : Nat} {Q : Unit → Shared → Prop} (F : Fr h₀ L s.heap m) (N : News h₀ L s.heap ((D, listOf #[.ref S, .int k t] n) :: news)) (hoff : ∀ p ∈ news, p.1 ≠ D)
    (h : ∀ n' h', Fr h₀ L h' m → News h₀ L h' ((D, listOf #[.ref S, .int k' t'] n') :: news) → Q () { s with heap := h' }) : wpAny (model prog w) A (setItem (.ref D) (.int 1 u) (.int k' t')) Q E s := by
  have z := N _ (.head _)
  refine ki_setAt z.1 (by decide) (by decide) (by simp) (h _ _ (F.change (Heap.SameBut.update ..) z.2.1 z.2.2) (news_head N (.head _) (fun p hp => .tail _ hp) hoff (Heap.SameBut.update ..) (PySem.IsL.update z.1 _)))
theorem fmod_in {x m : Int} (h : 0 < m) : 0 ≤ Int.fmod x m ∧ Int.fmod x m < m := by
  rw [Int.fmod_eq_emod_of_nonneg _ (by omega)]
  exact ⟨Int.emod_nonneg _ (by omega), Int.emod_lt_of_pos _ h⟩
section
theorem tell_draw {w : World} {D S : Addr} {k : Int} {t0 : Tok} {n0 nS : Nat} {vS : List Value} {ns : List Int} {mm : Int} {tm : Tok} {news : Led} (hk0 : 0 ≤ k) (hk1 : k ≤ 1000) (hS : (S, listOf vS.toArray nS) ∈ news) (hi : IntsAre vS ns) (hl : ns.length ≤ 40) (hm0 : 0 < mm) (hm1 : mm ≤ 100) (hoff : ∀ p ∈ news, p.1 ≠ D) :
   TellD w 324 [.ref D, .int mm tm] D S k 1 (deckO S k t0 n0) news 2 16 (fun r => ∃ x t, r = .int x t ∧ 0 ≤ x ∧ x < mm) := by
  unfold deckO
  k_with_none
  k_with "execs cons" => (k_here; with_reducible refine exs_cons fun _ => ?_; k_fold)
  k_with "setItem ref int" => (k_here; with_reducible refine held_ ?_)
  k_with "call builtin:len" => (k_here; with_reducible refine held_ ?_)
  have hfill : (PySem.Challenge.rw_np0049_01, hd.heap_39) = (PySem.Challenge.rw_np0049_01, hd.heap_39) := by k_fill; rfl
  clear hfill
  intro mean mg mb dp un gd cn cs a ccd cl outer A₀ base h₀ L m s Q E B F X N T hk hd hu hret
  refine wpAny_call ?_
  k_dflt (refine' code_defN ?k1 ?k2 ?k3 ?k4 ?k5 ?kA ?kF ?kK ?k6 ?k7 ?k8 ?k9 ?kB ?hl ?_ ?c2 ?c3 ?c4 ?c5; (case kA => exact rfl); (case kF => exact rfl); (case kK => assumption); (case k1 => k_asm); (case k2 => k_asm); (case k3 => k_asm); (case k4 => k_asm); (case k5 => k_asm); (case k6 => k_is); (case k7 => k_is); (case k8 => first | exact room0 hd | ktr_room); (case k9 => exact BindsTo.of_eq rfl); (case c5 => decide); (case kB => exact locs rfl); (case hl => first | exact (rfl : _ = [(_, _)]) | exact (rfl : _ = [(_, _), (_, _)]) | exact (rfl : _ = [(_, _), (_, _), (_, _)]) | exact rfl); (case c2 => exact rfl); (case c3 => exact rfl); (case c4 => exact rfl); k_whole; intro g' L' h' tkE FG' F' N' B' X' T'; (try dsimp only); (try k_lift B'); (try k_fold))
  (change let ev : Env := _; wpAny _ (Around.deeper _ ev) (execs _ ev) _ _ _)
  intro ev
  (change let Ax : Around := _; wpAny _ Ax (execs _ ev) _ _ _)
  intro Ax
  k_steps
  refine heldI (set_deck (by k_asm) (by k_asm) hoff fun n1 h1 F1 N1 => ?_)
  k_steps
  have hvl : vS.length = ns.length := hi.length
  refine heldI (kun_lenL (k := (ns.length : Int)) (News.isList (by k_asm) (.tail _ hS)) (by rw [List.size_toArray, hvl]) (by omega) ?_)
  k_steps
  · refine item_anyK (News.isList (by k_asm) (.tail _ hS)) hi (by omega) (by omega) (by omega) ?_
    intro t9
    k_steps
    exact hret _ (k + 1) _ _ _ _ (by k_asm) (by k_asm) (by omega) (by omega) ⟨_, _, rfl, fmod_in hm0⟩
  · refine heldI (kun_lenL (k := (ns.length : Int)) (News.isList (by k_asm) (.tail _ hS)) (by rw [List.size_toArray, hvl]) (by omega) ?_)
    k_steps
    exact hret _ (k + 1) _ _ _ _ (by k_asm) (by k_asm) (by omega) (by omega) ⟨_, _, rfl, fmod_in hm0⟩
end
def ScriptAt (S : Addr) (news : Led) : Prop := ∃ vS nS ns, (S, listOf vS.toArray nS) ∈ news ∧ IntsAre vS ns ∧ ns.length ≤ 40
theorem ScriptAt.mono {S : Addr} {news led : Led} (h : ScriptAt S news) (hs : ∀ p ∈ news, p ∈ led) : ScriptAt S led := by
  obtain ⟨vS, nS, ns, h1, h2, h3⟩ := h; exact ⟨vS, nS, ns, hs _ h1, h2, h3⟩
theorem tell_draw' {w : World} {D S : Addr} {k : Int} {t0 : Tok} {n0 : Nat} {mm : Int} {tm : Tok} {news : Led} (hk0 : 0 ≤ k) (hk1 : k ≤ 1000) (hS : ScriptAt S news) (hm0 : 0 < mm) (hm1 : mm ≤ 100) (hoff : ∀ p ∈ news, p.1 ≠ D) :
   TellD w 324 [.ref D, .int mm tm] D S k 1 (deckO S k t0 n0) news 2 16 (fun r => ∃ x t, r = .int x t ∧ 0 ≤ x ∧ x < mm) := by
  obtain ⟨vS, nS, ns, h1, h2, h3⟩ := hS
  exact tell_draw hk0 hk1 h1 h2 h3 hm0 hm1 hoff
section
theorem tell_pick {w : World} {D S A : Addr} {k : Int} {t0 : Tok} {n0 nA : Nat} {vA : List Value} {news : Led} (hk0 : 0 ≤ k) (hk1 : k ≤ 1000) (hS : ScriptAt S news) (hA : (A, listOf vA.toArray nA) ∈ news) (hne : 0 < vA.length) (hlen : vA.length ≤ 100) (hoff : ∀ p ∈ news, p.1 ≠ D) :
   TellD w 331 [.ref D, .ref A] D S k 1 (deckO S k t0 n0) news 4 32 (fun r => r ∈ vA) := by
  k_with_none
  k_with "execs cons" => (k_here; with_reducible refine exs_cons fun _ => ?_; k_fold)
  k_with "call ref" => (k_here; with_reducible refine held_ ?_)
  k_with "call builtin:len" => (k_here; with_reducible refine held_ ?_)
  have hfill : (PySem.Challenge.rw_np0049_01, hd.heap_39) = (PySem.Challenge.rw_np0049_01, hd.heap_39) := by k_fill; rfl
  clear hfill
  intro mean mg mb dp un gd cn cs a ccd cl outer A₀ base h₀ L m s Q E B F X N T hk hd hu hret
  refine wpAny_call ?_
  k_dflt (refine' code_defN ?k1 ?k2 ?k3 ?k4 ?k5 ?kA ?kF ?kK ?k6 ?k7 ?k8 ?k9 ?kB ?hl ?_ ?c2 ?c3 ?c4 ?c5; (case kA => exact rfl); (case kF => exact rfl); (case kK => assumption); (case k1 => k_asm); (case k2 => k_asm); (case k3 => k_asm); (case k4 => k_asm); (case k5 => k_asm); (case k6 => k_is); (case k7 => k_is); (case k8 => first | exact room0 hd | ktr_room); (case k9 => exact BindsTo.of_eq rfl); (case c5 => decide); (case kB => exact locs rfl); (case hl => first | exact (rfl : _ = [(_, _)]) | exact (rfl : _ = [(_, _), (_, _)]) | exact (rfl : _ = [(_, _), (_, _), (_, _)]) | exact rfl); (case c2 => exact rfl); (case c3 => exact rfl); (case c4 => exact rfl); k_whole; intro g' L' h' tkE FG' F' N' B' X' T'; (try dsimp only); (try k_lift B'); (try k_fold))
  (change let ev : Env := _; wpAny _ (Around.deeper _ ev) (execs _ ev) _ _ _)
  intro ev
  (change let Ax : Around := _; wpAny _ Ax (execs _ ev) _ _ _)
  intro Ax
  k_steps
  refine heldI (kun_lenL (k := (vA.length : Int)) (News.isList (by k_asm) (.tail _ hA)) (by rw [List.size_toArray]) (by omega) ?_)
  k_steps
  refine heldI (TellD.use (tell_draw' (mm := (vA.length : Int)) hk0 hk1 hS (by omega) (by omega) hoff) (by k_asm) (by k_asm) (by k_asm) (by k_asm) (by k_asm) rfl (by first | exact room1 hd rfl | ktr_room) (by first | exact room1 hu rfl | ktr_units) ?_)
  rintro _ k1 t1 n1 h1 tk1 F1 N1 hk2 hk3 ⟨x, tx, rfl, hx0, hx1⟩
  k_steps
  obtain ⟨y, hy⟩ : ∃ y, vA[x.toNat]? = some y := ⟨_, List.getElem?_eq_getElem (by omega)⟩
  refine item_list (x := y) (News.isList (by k_asm) (.tail _ hA)) hx0 (by omega) (by simpa using hy) ?_
  k_steps
  exact hret _ k1 _ _ _ _ (by k_asm) (by k_asm) hk2 hk3 (List.mem_of_getElem? hy)
end
end
-- KbPairs
section
noncomputable def subsOf : List Nat → List (List Nat)
  | [] => [[]]
  | c :: r => subsOf r ++ (subsOf r).map (c :: ·)
noncomputable def bitsSum (ls : List Nat) : Int := (ls.map bitL).sum
noncomputable def rawMarks (ls : List Nat) : List Nat := ls.flatMap fun c => [c, 45]
noncomputable def noC (ls : List Nat) : List Nat := ls.filter fun c => c != 67
noncomputable def withCs (ls : List Nat) : List Nat := modL.filter fun c => ls.contains c || c == 67
noncomputable def lessC (ls : List Nat) : Int := if ls.contains 67 = true then bitsSum ls - 67108864 else bitsSum ls
noncomputable def lawNames : List (List Nat) := [[117, 112], [102, 49], [114, 101, 116, 117, 114, 110], [45], [83, 45], [120], [109, 111, 117, 115, 101, 45, 49]]
noncomputable def lawSome : List (Int × List Nat) := [(32, [83, 80, 67]), (127, [68, 69, 76]), (45, [45]), (60, [60]), (233, [233]), (8364, [8364])]
noncomputable def lawCtrl : List (Int × List Nat) := [(27, [69, 83, 67]), (13, [82, 69, 84]), (9, [84, 65, 66])]
noncomputable def lawLetters : List (Int × List Nat) := [(1, [97]), (24, [120]), (0, [64]), (10, [106]), (28, [92]), (30, [94]), (31, [95])]
noncomputable def lawSigns : List Nat := [97, 122, 65, 64, 94, 48, 37, 42, 59]
noncomputable def pair4 (ls n : List Nat) : Key × List Nat := (.inr (rawMarks ls ++ n), rawMarks ls ++ ([60] ++ n ++ [62]))
noncomputable def pair3 (ls : List Nat) (p : Int × List Nat) : Key × List Nat := (.inl (p.1 + bitsSum ls), rawMarks ls ++ p.2)
noncomputable def pair2 (ls : List Nat) (p : Int × List Nat) : Key × List Nat :=
  (.inl (p.1 + lessC ls), if p.1 = 9 ∧ ls.contains 77 = true then rawMarks (withCs ls) ++ [105] else rawMarks (noC ls) ++ p.2)
noncomputable def pair1 (ls : List Nat) (p : Int × List Nat) : Key × List Nat := (.inl (p.1 + lessC ls), rawMarks (withCs ls) ++ p.2)
noncomputable def pair0 (ls : List Nat) (c : Nat) : Key × List Nat :=
  if ls.contains 67 = true ∧ [97, 122, 65, 64, 94].contains c = true then (.inl ((c : Int) + (bitsSum ls - 67108864)), rawMarks (noC ls) ++ [c])
  else (.inl ((c : Int) + bitsSum ls), rawMarks ls ++ [c])
noncomputable def pairsOf (ls : List Nat) : List (Key × List Nat) :=
  lawNames.map (pair4 ls) ++ (lawSome.map (pair3 ls) ++ (lawCtrl.map (pair2 ls) ++ (lawLetters.map (pair1 ls) ++ lawSigns.map (pair0 ls))))
noncomputable def clean (t : List Nat) : Bool := t != [] && !isRemark t && t.all (fun c => !isBlank c) && decide (t.length ≤ 30) && decide (digitsAt t ≤ 1)
noncomputable def keyFine : Key → Bool
  | .inl e => decide (codeOf e ≤ 1114111)
  | .inr n => PyData.strOk (Tx n) && decide (n.length ≤ 30)
noncomputable def wordGood (k : Key) (t : List Nat) : Bool := (keyText k == t) && (timesOf t == some (1, t)) && (wordKeys t == some [k]) && clean t
noncomputable def pairGood (p : Key × List Nat) : Bool := wordGood p.1 p.2 && keyFine p.1 && (match p.1 with
  | .inl e => decide (0 ≤ e ∧ e < 268435456) && (hasMeta e == decide (134217728 ≤ e)) && (decide (134217728 ≤ e) || keyFine (.inl (e + 134217728)) && wordGood (.inl (e + 134217728)) (keyText (.inl (e + 134217728))))
  | .inr _ => true)
/-- eight of the sets of letters at a time -/
noncomputable def chunkOf (i : Nat) : List (List Nat) := ((subsOf modL).drop (8 * i)).take 8
set_option maxRecDepth 1000000
theorem pairs_a : (chunkOf 0).all (fun ls => (pairsOf ls).all pairGood) = true := by decide +kernel
theorem pairs_b : (chunkOf 1).all (fun ls => (pairsOf ls).all pairGood) = true := by decide +kernel
theorem pairs_c : (chunkOf 2).all (fun ls => (pairsOf ls).all pairGood) = true := by decide +kernel
theorem pairs_d : (chunkOf 3).all (fun ls => (pairsOf ls).all pairGood) = true := by decide +kernel
theorem pairs_e : (chunkOf 4).all (fun ls => (pairsOf ls).all pairGood) = true := by decide +kernel
theorem pairs_f : (chunkOf 5).all (fun ls => (pairsOf ls).all pairGood) = true := by decide +kernel
theorem pairs_g : (chunkOf 6).all (fun ls => (pairsOf ls).all pairGood) = true := by decide +kernel
theorem pairs_h : (chunkOf 7).all (fun ls => (pairsOf ls).all pairGood) = true := by decide +kernel
theorem subs_chunks : subsOf modL = chunkOf 0 ++ (chunkOf 1 ++ (chunkOf 2 ++ (chunkOf 3 ++ (chunkOf 4 ++ (chunkOf 5 ++ (chunkOf 6 ++ (chunkOf 7))))))) := by decide +kernel
theorem pairs_good : (subsOf modL).all (fun ls => (pairsOf ls).all pairGood) = true := by
  rw [subs_chunks]
  simp only [List.all_append, pairs_a, pairs_b, pairs_c, pairs_d, pairs_e, pairs_f, pairs_g, pairs_h, Bool.and_self]
end
-- KbSb
section
noncomputable def keyD : Key → PyData
  | .inl e => .int e
  | .inr n => .str (Tx n)
/-- names of signs that a text may hold -/
def KeyStr : Key → Prop
  | .inl _ => True
  | .inr n => PyData.strOk (Tx n) = true
theorem reads_keys {h : Heap} {vs : List Value} {ks : List Key} (hv : KeysAre vs ks) : ReadsAll h vs (ks.map keyD) [] := by
  induction hv with
  | nil => exact .nil
  | @cons v k vs ks e _ ih =>
    obtain ⟨t, rfl⟩ := e
    have h1 : PySem.Reads h (kv k t) (keyD k) [] := by
      cases k with
      | inl e => exact .int _ _
      | inr n => exact .str _ _
    exact .cons h1 ih
theorem canLay_keys {ks : List Key} (h : ∀ k ∈ ks, KeyStr k) : PyData.canLayAll0 (ks.map keyD) = true := by
  induction ks with
  | nil => simp [PyData.canLayAll0]
  | cons k r ih =>
    have h1 : (keyD k).canLay0 = true := by
      have := h k (.head _)
      cases k with
      | inl e => simp [keyD, PyData.canLay0]
      | inr n =>
        have h2 : PyData.strOk (Tx n) = true := this
        simp [keyD, PyData.canLay0, h2]
    rw [List.map_cons, PyData.canLayAll0, h1, ih fun k hk => h k (.tail _ hk)]; rfl
theorem depth_keys : ∀ ks : List Key, PyData.depthAll (ks.map keyD) = 0
  | [] => by simp [PyData.depthAll]
  | .inl e :: r => by rw [List.map_cons, PyData.depthAll, depth_keys r]; simp [keyD, PyData.depth]
  | .inr n :: r => by rw [List.map_cons, PyData.depthAll, depth_keys r]; simp [keyD, PyData.depth]
theorem eqv_keys : ∀ ks : List Key, PyData.eqvAll (ks.map keyD) (ks.map keyD) = true
  | [] => by simp [PyData.eqvAll]
  | .inl e :: r => by rw [List.map_cons, PyData.eqvAll, eqv_keys r]; simp [keyD, PyData.eqv]
  | .inr n :: r => by rw [List.map_cons, PyData.eqvAll, eqv_keys r]; simp [keyD, PyData.eqv]
theorem shaped_tup {ks : List Key} (h : ∀ k ∈ ks, KeyStr k) : SeqAt.shaped (.tuple (ks.map keyD)) = true := by
  unfold SeqAt.shaped
  rw [show PyData.canLay0 (.tuple (ks.map keyD)) = PyData.canLayAll0 (ks.map keyD) from by simp [PyData.canLay0], canLay_keys h, show PyData.depth (.tuple (ks.map keyD)) = PyData.depthAll (ks.map keyD) + 1 from by simp [PyData.depth], depth_keys]
  rfl
theorem shaped_lst {ks : List Key} (h : ∀ k ∈ ks, KeyStr k) : SeqAt.shaped (.list (ks.map keyD)) = true := by
  unfold SeqAt.shaped
  rw [show PyData.canLay0 (.list (ks.map keyD)) = PyData.canLayAll0 (ks.map keyD) from by simp [PyData.canLay0], canLay_keys h, show PyData.depth (.list (ks.map keyD)) = PyData.depthAll (ks.map keyD) + 1 from by simp [PyData.depth], depth_keys]
  rfl
section
variable {prog : Program} {w : World} {A : Around} {E : Value → Shared → Prop} {s : Shared} {h₀ : Heap} {L a b : Addr} {m : Str → Option Value} {led : Led} {Q : Value → Shared → Prop}
/-- two tuples of the same keys -/
theorem ne_keys {va vb : List Value} {na nb : Nat} {ks : List Key} (N : News h₀ L s.heap led) (ha : (a, ({ cls := .type "tuple", data := .seq va.toArray na } : Obj)) ∈ led) (hb : (b, ({ cls := .type "tuple", data := .seq vb.toArray nb } : Obj)) ∈ led)
    (ka : KeysAre va ks) (kb : KeysAre vb ks) (hs : ∀ k ∈ ks, KeyStr k) (hu : A.units + 64 < cLine) (h : Q (.bool false) s) : wpAny (model prog w) A (compareOp .NotEq (.ref a) (.ref b)) Q E s := by
  refine ne_dataH (reads_tuple_at (N _ ha).1 rfl rfl (reads_keys ka)) (reads_tuple_at (N _ hb).1 rfl rfl (reads_keys kb)) (shaped_tup hs) (shaped_tup hs) hu ?_
  rw [show PyData.eqv (.tuple (ks.map keyD)) (.tuple (ks.map keyD)) = PyData.eqvAll (ks.map keyD) (ks.map keyD) from by simp [PyData.eqv], eqv_keys]
  exact h
/-- a list of one key is not the empty list -/
theorem ne_nil_key {va : List Value} {na nb : Nat} {k : Key} (N : News h₀ L s.heap led) (ha : (a, listOf va.toArray na) ∈ led) (hb : (b, listOf #[] nb) ∈ led)
    (ka : KeysAre va [k]) (hs : KeyStr k) (hu : A.units + 64 < cLine) (h : Q (.bool true) s) : wpAny (model prog w) A (compareOp .NotEq (.ref a) (.ref b)) Q E s := by
  refine ne_dataH (reads_list_at (N _ ha).1 rfl rfl (reads_keys ka)) (reads_list_at (N _ hb).1 rfl rfl (.nil)) (shaped_lst (fun k' hk' => by rw [List.mem_singleton.mp hk']; exact hs)) (shaped_lst (ks := []) (fun k' hk' => nomatch hk')) hu ?_
  rw [show PyData.eqv (.list ([k].map keyD)) (.list []) = false from by simp [PyData.eqv, PyData.eqvAll]]
  exact h
theorem ne_nil_nil {na nb : Nat} (N : News h₀ L s.heap led) (ha : (a, listOf #[] na) ∈ led) (hb : (b, listOf #[] nb) ∈ led) (hu : A.units + 64 < cLine) (h : Q (.bool false) s) : wpAny (model prog w) A (compareOp .NotEq (.ref a) (.ref b)) Q E s := by
  refine ne_dataH (reads_list_at (N _ ha).1 rfl rfl .nil) (reads_list_at (N _ hb).1 rfl rfl .nil) (shaped_lst (ks := []) (fun k' hk' => nomatch hk')) (shaped_lst (ks := []) (fun k' hk' => nomatch hk')) hu ?_
  rw [show PyData.eqv (.list []) (.list []) = true from by simp [PyData.eqv, PyData.eqvAll]]
  exact h
end
end
-- KbSa
section
/-- the keys with a meta key in the place of ESC ahead of a sign -/
noncomputable def joined : List Key → List Key
  | .inl e :: .inl e2 :: r => if e = 27 ∧ e2 < 134217728 then .inl (e2 + 134217728) :: joined r else .inl e :: joined (.inl e2 :: r)
  | k :: r => k :: joined r
  | [] => []
def joinJ (K D : Addr) (news : Led) (ks : List Key) (n : Nat) (m : Str → Option Value) (nx : Led) : Prop :=
  ∃ (j : Nat) (vs : List Value) (cnt : Nat) (fs : List Key) (t : Tok), nx = (D, listOf vs.toArray cnt) :: news ∧ m (Str.ofString "keys") = some (.ref K) ∧ m (Str.ofString "found") = some (.ref D) ∧ m (Str.ofString "at") = some (.int (j : Int) t) ∧ KeysAre vs fs ∧ fs ++ joined (ks.drop j) = joined ks ∧ fs.length ≤ j ∧ j + n = ks.length
theorem pick1 (l : List Value) (j : Nat) : kms_pick l (some ((j : Int) + 1)) (some ((j : Int) + 2)) = (l.drop (j + 1)).take 1 := by
  unfold kms_pick kms_lo kms_hi
  dsimp only
  rw [if_neg (by omega), if_neg (by omega)]
  have e1 : ((j : Int) + 1).toNat = j + 1 := by omega
  have e2 : ((j : Int) + 2).toNat = j + 2 := by omega
  rw [e1, e2]
  by_cases h : j + 1 < l.length
  · rw [Nat.min_eq_left (by omega), Nat.min_eq_left (by omega)]
    congr 1; omega
  · rw [List.drop_of_length_le (by omega), List.drop_of_length_le (by omega), List.take_nil, List.take_nil]
theorem pick_tail (l : List Value) : kms_pick l (some 1) none = l.drop 1 := by
  show (l.drop (min 1 l.length)).take (l.length - min 1 l.length) = _
  cases l with
  | nil => rfl
  | cons a r => simp
theorem pick_head (l : List Value) : kms_pick l none (some 1) = l.take 1 := by
  show (l.drop 0).take (min 1 l.length - 0) = _
  cases l with
  | nil => rfl
  | cons a r => simp
theorem keys_get {vs : List Value} {ks : List Key} (h : KeysAre vs ks) : ∀ {i : Nat} {k : Key}, ks[i]? = some k → ∃ t, vs[i]? = some (kv k t) := by
  induction h with
  | nil => intro i k e; simp at e
  | cons e0 _ ih =>
    intro i k e
    cases i with
    | zero =>
      obtain ⟨t, e0⟩ := e0
      simp only [List.getElem?_cons_zero, Option.some.injEq] at e
      subst e
      exact ⟨t, by rw [e0]; rfl⟩
    | succ i => exact ih (by simpa using e)
theorem take_one {l : List Value} {i : Nat} {v : Value} (h : l[i]? = some v) : (l.drop i).take 1 = [v] := by
  obtain ⟨h1, h2⟩ := List.getElem?_eq_some_iff.mp h
  rw [List.drop_eq_getElem_cons h1, h2]; rfl
theorem take_none {l : List Value} {i : Nat} (h : l.length ≤ i) : (l.drop i).take 1 = [] := by
  rw [List.drop_of_length_le h]; rfl
theorem joined_inr (n : List Nat) (r : List Key) : joined (.inr n :: r) = .inr n :: joined r := by
  cases r <;> simp [joined]
theorem joined_ne {e : Int} (h : e ≠ 27) (r : List Key) : joined (.inl e :: r) = .inl e :: joined r := by
  match r with
  | [] => simp [joined]
  | .inl e2 :: r => rw [joined, if_neg (fun q => h q.1)]
  | .inr n :: r => simp [joined]
theorem joined_esc_inr {e : Int} (n : List Nat) (r : List Key) : joined (.inl e :: .inr n :: r) = .inl e :: joined (.inr n :: r) := by simp [joined]
theorem joined_esc_end {e : Int} : joined [.inl e] = [.inl e] := by simp [joined]
theorem joined_esc_lt {e e2 : Int} (h : e = 27) (h2 : e2 < 134217728) (r : List Key) : joined (.inl e :: .inl e2 :: r) = .inl (e2 + 134217728) :: joined r := by rw [joined, if_pos ⟨h, h2⟩]
theorem joined_esc_ge {e e2 : Int} (h2 : ¬ e2 < 134217728) (r : List Key) : joined (.inl e :: .inl e2 :: r) = .inl e :: joined (.inl e2 :: r) := by rw [joined, if_neg (fun q => h2 q.2)]
theorem drop_key {ks : List Key} {j : Nat} {k : Key} (h : ks[j]? = some k) : ks.drop j = k :: ks.drop (j + 1) := by
  obtain ⟨h1, h2⟩ := List.getElem?_eq_some_iff.mp h
  rw [List.drop_eq_getElem_cons h1, h2]
theorem joinJ_1 {K D : Addr} {news : Led} {ks : List Key} {j n c : Nat} {m : Str → Option Value} {vs : List Value} {fs : List Key} {k k' : Key} {t u : Tok} {i : Int} (hV : KeysAre vs fs) (hJ : fs ++ joined (ks.drop j) = joined ks) (hfl : fs.length ≤ j) (hjn : j + n = ks.length) (hk : ks[j]? = some k) (hs : joined (k :: ks.drop (j + 1)) = k' :: joined (ks.drop (j + 1)))
    (h0 : m (Str.ofString "keys") = some (.ref K)) (h1 : m (Str.ofString "found") = some (.ref D)) (h2 : m (Str.ofString "at") = some (.int i u)) (hi : i = (j : Int) + 1) : joinJ K D news ks (n - 1) m ((D, listOf (vs ++ [kv k' t]).toArray c) :: news) := by
  have hj := (List.getElem?_eq_some_iff.mp hk).1
  refine ⟨j + 1, vs ++ [kv k' t], c, fs ++ [k'], u, rfl, h0, h1, by rw [h2, hi]; rfl, hV.append (.one rfl), ?_, by rw [List.length_append]; simp; omega, by omega⟩
  rw [← hJ, drop_key hk, hs, List.append_assoc]; rfl
theorem joinJ_2 {K D : Addr} {news : Led} {ks : List Key} {j n c : Nat} {m : Str → Option Value} {vs : List Value} {fs : List Key} {k k2 k' : Key} {t u : Tok} {i : Int} (hV : KeysAre vs fs) (hJ : fs ++ joined (ks.drop j) = joined ks) (hfl : fs.length ≤ j) (hjn : j + n = ks.length) (hk : ks[j]? = some k) (hk2 : ks[j + 1]? = some k2) (hs : joined (k :: k2 :: ks.drop (j + 2)) = k' :: joined (ks.drop (j + 2)))
    (h0 : m (Str.ofString "keys") = some (.ref K)) (h1 : m (Str.ofString "found") = some (.ref D)) (h2 : m (Str.ofString "at") = some (.int i u)) (hi : i = (j : Int) + 1 + 1) : joinJ K D news ks (n - 2) m ((D, listOf (vs ++ [kv k' t]).toArray c) :: news) := by
  have hj := (List.getElem?_eq_some_iff.mp hk2).1
  refine ⟨j + 2, vs ++ [kv k' t], c, fs ++ [k'], u, rfl, h0, h1, by rw [h2, hi]; rfl, hV.append (.one rfl), ?_, by rw [List.length_append]; simp; omega, by omega⟩
  rw [← hJ, drop_key hk, drop_key hk2, hs, List.append_assoc]; rfl
section
theorem tell_law_joined {w : World} {K : Addr} {vK : List Value} {nK : Nat} {ks : List Key} {news : Led} (hK : (K, listOf vK.toArray nK) ∈ news) (hks : KeysAre vK ks) (hl : ks.length ≤ 1000) (hstr : ∀ k ∈ ks, KeyStr k) :
   TellN w 350 [.ref K] news 12 96 (KListO (joined ks)) := by
  k_with_none
  k_with "execs cons" => (k_here; with_reducible refine exs_cons fun _ => ?_; k_fold)
  k_with "exec While Compare cons nil" => (k_here; with_reducible refine held_ ?_)
  k_with "call builtin:len" => (k_here; with_reducible refine held_ ?_)
  k_with "call builtin:list.append" => (k_here; with_reducible refine held_ ?_)
  k_with "compareOp NotEq ref ref" => (k_here; with_reducible refine held_ ?_)
  have hfill : (PySem.Challenge.rw_np0049_01, hd.heap_39) = (PySem.Challenge.rw_np0049_01, hd.heap_39) := by k_fill; rfl
  clear hfill
  intro mean mg mb dp un gd cn cs a ccd cl outer A₀ base h₀ L m s Q E B F X N T hk hd hu hret
  refine wpAny_call ?_
  k_dflt (refine' code_defN ?k1 ?k2 ?k3 ?k4 ?k5 ?kA ?kF ?kK ?k6 ?k7 ?k8 ?k9 ?kB ?hl ?_ ?c2 ?c3 ?c4 ?c5; (case kA => exact rfl); (case kF => exact rfl); (case kK => assumption); (case k1 => k_asm); (case k2 => k_asm); (case k3 => k_asm); (case k4 => k_asm); (case k5 => k_asm); (case k6 => k_is); (case k7 => k_is); (case k8 => first | exact room0 hd | ktr_room); (case k9 => exact BindsTo.of_eq rfl); (case c5 => decide); (case kB => exact locs rfl); (case hl => first | exact (rfl : _ = [(_, _)]) | exact (rfl : _ = [(_, _), (_, _)]) | exact (rfl : _ = [(_, _), (_, _), (_, _)]) | exact rfl); (case c2 => exact rfl); (case c3 => exact rfl); (case c4 => exact rfl); k_whole; intro g' L' h' tkE FG' F' N' B' X' T'; (try dsimp only); (try k_lift B'); (try k_fold))
  (change let ev : Env := _; wpAny _ (Around.deeper _ ev) (execs _ ev) _ _ _)
  intro ev
  (change let Ax : Around := _; wpAny _ Ax (execs _ ev) _ _ _)
  intro Ax
  k_steps
  refine heldI (While_inv (joinJ K _ news ks) (by k_asm) (cb_drop (by k_asm) (by kcj_all)) (n₀ := ks.length) ⟨0, [], 0, [], _, rfl, rfl, rfl, rfl, .nil, rfl, Nat.le_refl _, Nat.zero_add _⟩ ?_)
  rintro n m₁ nx h1 tk1 F1 N1 ⟨j, vs, cnt, fs, t1, rfl, hm0, hm1, hm2, hV, hJ, hfl, hjn⟩
  obtain ⟨m', rfl⟩ := map3 hm0 hm1 hm2
  k_steps
  refine heldI (kun_lenL (k := (ks.length : Int)) (News.isList (by k_asm) (.tail _ hK)) (by rw [List.size_toArray, hks.len]) (by omega) ?_)
  k_steps
  · have hj : j < ks.length := by omega
    obtain ⟨k, hk⟩ : ∃ k, ks[j]? = some k := ⟨_, List.getElem?_eq_getElem hj⟩
    obtain ⟨t9, hv⟩ := keys_get hks hk
    have hvl : vs.length ≤ 1000 := by rw [hV.len]; omega
    cases k with
    | inr nm =>
      refine item_list (x := kv (.inr nm) t9) (News.isList (by k_asm) (.tail _ hK)) (by omega) (by omega) (by simpa using hv) ?_
      dsimp only [kv]
      k_steps
      k_dflt (refine' kms_slice_lit (zs := (vK.drop (j + 1)).take 1) ?zF ?zN ?zl ?zp ?zq ?ze ?_ ?zs ?zt ?zz; (case zF => k_asm); (case zN => k_asm); (case zl => exact News.isList (by k_asm) (.tail _ hK)); (case zp => kmk_part); (case zq => kmk_part); (case ze => exact pick1 _ _); (case zs => with_unfolding_all rfl); (case zt => kmk_pure); (case zz => rw [List.size_toArray, hks.len, sizeLine_eq]; omega))
      intro D9 h9 F9 N9 l9
      k_steps
      refine heldI (appendD (rest := news) (by k_asm) (by k_asm) (by k_mem) (by kstt_sub) (lt_nes (by assumption)) (by omega) fun h2 F2 N2 => ?_)
      k_steps
      exact WhileStep.intro (n' := n - 1) (by k_asm) (by k_asm) (by omega) (joinJ_1 hV hJ hfl hjn hk (joined_inr _ _) (by rfl) (by rfl) (by rfl) (by first | rfl | omega))
    | inl e =>
      rcases hq : ks[j + 1]? with _ | k2
      · have hz : (vK.drop (j + 1)).take 1 = [] := take_none (by rw [hks.len]; exact List.getElem?_eq_none_iff.mp hq)
        have hd0 : ks.drop (j + 1) = [] := List.drop_of_length_le (List.getElem?_eq_none_iff.mp hq)
        refine item_list (x := kv (.inl e) t9) (News.isList (by k_asm) (.tail _ hK)) (by omega) (by omega) (by simpa using hv) ?_
        dsimp only [kv]
        k_steps
        k_dflt (refine' kms_slice_lit (zs := []) ?zF ?zN ?zl ?zp ?zq ?ze ?_ ?zs ?zt ?zz; (case zF => k_asm); (case zN => k_asm); (case zl => exact News.isList (by k_asm) (.tail _ hK)); (case zp => kmk_part); (case zq => kmk_part); (case ze => exact (pick1 _ _).trans hz); (case zs => with_unfolding_all rfl); (case zt => kmk_pure); (case zz => rw [List.size_toArray, hks.len, sizeLine_eq]; omega))
        intro D9 h9 F9 N9 l9
        k_steps
        · refine heldI (ne_nil_nil (by k_asm) (by k_mem) (by k_mem) (by first | exact room1 hu rfl | ktr_units) ?_)
          k_steps
          refine heldI (appendD (rest := news) (by k_asm) (by k_asm) (by k_mem) (by kstt_sub) (lt_nes (by assumption)) (by omega) fun h2 F2 N2 => ?_)
          k_steps
          exact WhileStep.intro (n' := n - 1) (by k_asm) (by k_asm) (by omega) (joinJ_1 (k' := .inl e) hV hJ hfl hjn hk (by rw [hd0, joined_esc_end]; rfl) (by rfl) (by rfl) (by rfl) (by first | rfl | omega))
        · refine heldI (appendD (rest := news) (by k_asm) (by k_asm) (by k_mem) (by kstt_sub) (lt_nes (by assumption)) (by omega) fun h2 F2 N2 => ?_)
          k_steps
          exact WhileStep.intro (n' := n - 1) (by k_asm) (by k_asm) (by omega) (joinJ_1 hV hJ hfl hjn hk (joined_ne (by assumption) _) (by rfl) (by rfl) (by rfl) (by first | rfl | omega))
      · obtain ⟨t10, hv2⟩ := keys_get hks hq
        have hz : (vK.drop (j + 1)).take 1 = [kv k2 t10] := take_one hv2
        have hd1 := drop_key hq
        cases k2 with
        | inr nm =>
          dsimp only [kv] at hz
          refine item_list (x := kv (.inl e) t9) (News.isList (by k_asm) (.tail _ hK)) (by omega) (by omega) (by simpa using hv) ?_
          dsimp only [kv]
          k_steps
          k_dflt (refine' kms_slice_lit (zs := [.str (Tx nm) t10]) ?zF ?zN ?zl ?zp ?zq ?ze ?_ ?zs ?zt ?zz; (case zF => k_asm); (case zN => k_asm); (case zl => exact News.isList (by k_asm) (.tail _ hK)); (case zp => kmk_part); (case zq => kmk_part); (case ze => exact (pick1 _ _).trans hz); (case zs => with_unfolding_all rfl); (case zt => kmk_pure); (case zz => rw [List.size_toArray, hks.len, sizeLine_eq]; omega))
          intro D9 h9 F9 N9 l9
          k_steps
          · refine heldI (ne_nil_key (k := .inr nm) (by k_asm) (by k_mem) (by k_mem) (.one' ⟨_, rfl⟩) (hstr _ (List.mem_of_getElem? hq)) (by first | exact room1 hu rfl | ktr_units) ?_)
            k_steps
            refine heldI (appendD (rest := news) (by k_asm) (by k_asm) (by k_mem) (by kstt_sub) (lt_nes (by assumption)) (by omega) fun h2 F2 N2 => ?_)
            k_steps
            exact WhileStep.intro (n' := n - 1) (by k_asm) (by k_asm) (by omega) (joinJ_1 (k' := .inl e) hV hJ hfl hjn hk (by rw [hd1, joined_esc_inr]) (by rfl) (by rfl) (by rfl) (by first | rfl | omega))
          · refine heldI (appendD (rest := news) (by k_asm) (by k_asm) (by k_mem) (by kstt_sub) (lt_nes (by assumption)) (by omega) fun h2 F2 N2 => ?_)
            k_steps
            exact WhileStep.intro (n' := n - 1) (by k_asm) (by k_asm) (by omega) (joinJ_1 hV hJ hfl hjn hk (joined_ne (by assumption) _) (by rfl) (by rfl) (by rfl) (by first | rfl | omega))
        | inl e2 =>
          dsimp only [kv] at hz
          refine item_list (x := kv (.inl e) t9) (News.isList (by k_asm) (.tail _ hK)) (by omega) (by omega) (by simpa using hv) ?_
          dsimp only [kv]
          k_steps
          k_dflt (refine' kms_slice_lit (zs := [.int e2 t10]) ?zF ?zN ?zl ?zp ?zq ?ze ?_ ?zs ?zt ?zz; (case zF => k_asm); (case zN => k_asm); (case zl => exact News.isList (by k_asm) (.tail _ hK)); (case zp => kmk_part); (case zq => kmk_part); (case ze => exact (pick1 _ _).trans hz); (case zs => with_unfolding_all rfl); (case zt => kmk_pure); (case zz => rw [List.size_toArray, hks.len, sizeLine_eq]; omega))
          intro D9 h9 F9 N9 l9
          k_steps
          · refine heldI (ne_nil_key (k := .inl e2) (by k_asm) (by k_mem) (by k_mem) (.one' ⟨_, rfl⟩) (hstr _ (List.mem_of_getElem? hq)) (by first | exact room1 hu rfl | ktr_units) ?_)
            k_steps
            · refine heldI (appendD (rest := news) (by k_asm) (by k_asm) (by k_mem) (by kstt_sub) (lt_nes (by assumption)) (by omega) fun h2 F2 N2 => ?_)
              k_steps
              exact WhileStep.intro (n' := n - 2) (by k_asm) (by k_asm) (by omega) (joinJ_2 (k' := .inl (e2 + 134217728)) hV hJ hfl hjn hk hq (joined_esc_lt (by assumption) (by simpa using (by assumption : [e2].getD (Int.toNat 0) 0 < 2 ^ Int.toNat 27)) _) (by rfl) (by rfl) (by rfl) (by first | rfl | omega))
            · refine heldI (appendD (rest := news) (by k_asm) (by k_asm) (by k_mem) (by kstt_sub) (lt_nes (by assumption)) (by omega) fun h2 F2 N2 => ?_)
              k_steps
              exact WhileStep.intro (n' := n - 1) (by k_asm) (by k_asm) (by omega) (joinJ_1 (k' := .inl e) hV hJ hfl hjn hk (by rw [hd1, joined_esc_ge (by simpa using (by assumption : ¬ [e2].getD (Int.toNat 0) 0 < 2 ^ Int.toNat 27))]) (by rfl) (by rfl) (by rfl) (by first | rfl | omega))
          · refine heldI (appendD (rest := news) (by k_asm) (by k_asm) (by k_mem) (by kstt_sub) (lt_nes (by assumption)) (by omega) fun h2 F2 N2 => ?_)
            k_steps
            exact WhileStep.intro (n' := n - 1) (by k_asm) (by k_asm) (by omega) (joinJ_1 hV hJ hfl hjn hk (joined_ne (by assumption) _) (by rfl) (by rfl) (by rfl) (by first | rfl | omega))
  · have hj : j = ks.length := by omega
    subst hj
    rw [List.drop_length] at hJ
    exact retN hret (by k_asm) (by k_asm) (by first | assumption | exact lt_nes (by assumption) | exact fn1 (by assumption) | exact fn2 (by assumption) | exact fr1 (by assumption) | exact fr2 (by assumption) | exact fr3 (by assumption)) ⟨_, _, by rw [← hJ]; simpa [joined] using hV, rfl⟩
end
end
-- KbRa
section
open PySem.Spec PySem.Calls PyProof.Rows.LCg
noncomputable abbrev excO (T : Addr) (dx : Option Addr) : Obj := { cls := .ref 31, dict := dx, data := .fields #[.ref T, .none, .none, .none, .bool false, .none] }
noncomputable abbrev excBm : List Value := [.type "Exception", .type "BaseException", .type "object"]
theorem cls31 {w : World} {h : Heap} (X : (hd.heap_39 w.params).In h) : ∃ nm q bs sn sub ab col dd k0 k1 k2 k3 k5, h.get? 31 = some (excClassObj nm q 31 30 bs excBm true sn sub ab col dd k0 k1 k2 k3 k5 "Exception.__new__") :=
  ⟨_, _, _, _, _, _, _, _, _, _, _, _, _, X 31 _ rfl⟩
theorem fn28 {w : World} {h : Heap} (X : (hd.heap_39 w.params).In h) : ∃ o, h.get? 28 = some o ∧ o.cls = .type "function" := ⟨_, X 28 _ rfl, rfl⟩
theorem ns30 {w : World} {h : Heap} (X : (hd.heap_39 w.params).In h) : ∃ mN : Str → Option Value, h.Ns 30 mN ∧ mN "__init__" = some (.ref 28) ∧ mN "__setattr__" = none ∧ mN "symbol" = none ∧ mN "data" = none ∧ mN "__getattribute__" = none ∧ mN "__getattr__" = none := by
  refine ⟨_, ⟨_, _, _, X 30 _ rfl, rfl, ?_, fun _ => rfl⟩, ?_, ?_, ?_, ?_, ?_, ?_⟩
  · intro e he
    simp only [List.mem_toArray, List.mem_cons, List.not_mem_nil, or_false] at he
    rcases he with rfl | rfl | rfl | rfl | rfl | rfl <;> exact ⟨_, _, rfl⟩
  all_goals rfl
/-- a dict that holds the sign of the signal -/
def SymO (mA : Str → Option Value) (od : Obj) : Prop := ∃ es n, od.data = .dict es n ∧ StrKeys es ∧ UniqKeys es ∧ ∀ y, nsFind es y = mA y
end
-- KbRb
section
open PySem.Spec PySem.Calls PyProof.Rows.LCg
section
variable {prog : Program} {w : World} {A : Around} {E : Value → Shared → Prop} {h : Heap} {g : Array GenState} {d : Drawn} {t : Nat} {os : OsState} {x T : Addr} {name : Str} {v : Value}
theorem lk_none {name : Str} (e : fastLookup "Exception" name = some none) : typeLookup (.type "Exception") name = pure none := by
  rw [typeLookup_type, builtinLookup_eq_fast, e]
section
variable {nm q : Str} {bs : List Value} {sn : List Str} {sub : List Value} {ab : Bool} {col : Option Bool} {dd : Option Addr} {k0 k1 k2 k3 k5 : Option Value} {mN : Str → Option Value} {sa owner : String}
/-- the first name laid on a signal: its dict is made -/
theorem sig_entry1 {tk : Tok} {o : Obj} {Q : Fin → Shared → Prop} (hC : h.get? 31 = some (excClassObj nm q 31 30 bs excBm true sn sub ab col dd k0 k1 k2 k3 k5 "Exception.__new__")) (hn : h.Ns 30 mN) (hs2 : mN name = none)
    (hB : typeLookup (.type "Exception") name = pure none) (hx : h.get? x = some o) (hc : o.cls = .ref 31) (hdn : o.dict = none) (hnc : ∀ c, o.data ≠ .cls c)
    (hq : ∀ h' tk' od, SymO (fun y => if y = name then some v else none) od → h'.get? h.objs.size = some od → h'.get? x = some { o with dict := some h.objs.size } → (∀ b o, b ≠ x → h.get? b = some o → h'.get? b = some o) → Q (.done (.ret .none)) ⟨h', g, d, tk', os⟩) :
    wpAny (model prog w) A (Builtin.«object.__setattr__» ⟨[.ref x, .str name tk, v], []⟩) Q E ⟨h, g, d, t, os⟩ := by
  have SF := PySem.F.store_Exception
  have hpass := SF.passes (.ref x)
  unfold Builtin.«object.__setattr__»
  repeat (first | rw [refuse_eq] | (rw [refuseLoop_ref, hpass]) | (with_reducible refine wpAny_loadPart_at hx ?_; rw [hc]) | with_reducible refine wpAny_mroOf_exc hC ?_ | (with_reducible refine wpAny_typeLookup_exc hC hn SF.mro hB ?_; rw [hs2]) | wp_step)
  rw [hdn, if_neg (by simp [typeHasDict])]
  have hx₁ : (h.push { cls := .type "dict", data := .dict #[] }).get? x = some o := Heap.get?_push_of_some _ hx
  have hxs : x ≠ h.objs.size := Nat.ne_of_lt (Heap.lt_size hx)
  have tail : wpAny (model prog w) A (do
      let d ← alloc { cls := .type "dict", data := .dict #[] }
      update x fun o => { cls := o.cls, dict := some d, data := o.data, slots := o.slots }
      dictMade (Value.ref 31) x d) (fun a s' => wpAny (model prog w) A (match a with
        | some d => Builtin.ObjectAttr.storeInDict d (Value.str name tk) name v
        | none => Builtin.ObjectAttr.noDictFor (Value.ref x) (Value.ref 31) name false) Q E s') E ⟨h, g, d, t, os⟩ := by
    refine wpAny_bind (wpAny_alloc' (wpAny_bind (wpAny_update' hx₁ (wpAny_pure ?_))))
    have hgd : ((h.push { cls := .type "dict", data := .dict #[] }).update x fun o => { cls := o.cls, dict := some h.objs.size, data := o.data, slots := o.slots }).get? h.objs.size
        = some { cls := .type "dict", data := .dict #[] } :=
      (Heap.get?_update_ne _ _ _ _ hxs.symm).trans (Heap.get?_push_at rfl rfl)
    show wpAny _ _ (Builtin.ObjectAttr.storeInDict h.objs.size (.str name tk) name v) _ _ _
    unfold Builtin.ObjectAttr.storeInDict Builtin.ObjectAttr.newKeyGuard
    refine wpAny_bind (wpAny_pure (wpAny_bind (wpAny_nsSet1 (Heap.Ns1.of_empty ⟨_, #[], _, hgd, rfl, fun e he => absurd he (by simp), fun _ => rfl⟩) fun h' hn' hs => ?_)))
    obtain ⟨oD, esD, epD, hoD, hdD, hcD⟩ := hn'.count (Within.cons name v Within.nil)
    refine wpAny_bind (wpAny_lookBehind hoD (by rw [hdD]; exact pastItsLine_dict (Nat.le_trans hcD (by rw [List.length_cons, List.length_nil, sizeLine_eq]; omega))) ?_)
    wp_walk
    obtain ⟨o', es, ep, e1, e2, e3, eu, e4⟩ := hn'
    refine hq h' _ o' ⟨es, ep, e2, e3, eu, e4⟩ e1 ?_ fun b ob hbx hb => ?_
    · refine (hs.2 x hxs).trans (Heap.get?_update_self _ hx₁ ?_)
      have hfr := (Heap.get?_some_iff.mp hx).2
      obtain ⟨oc, od, odt, osl⟩ := o
      cases odt <;> first | rfl | exact hfr
    · exact (hs.2 b (Nat.ne_of_lt (Heap.lt_size hb))).trans ((Heap.get?_update_ne _ _ _ _ hbx).trans (Heap.get?_push_of_some _ hb))
  split
  · rename_i hcd; cases hcd
  · split
    · rename_i c hcd; exact absurd hcd (hnc c)
    · exact tail
theorem sig_call1 {tk : Tok} {o : Obj} {R : Result → Shared → Prop} (SF : StoreFacts "Exception" excBm sa owner) (hC : h.get? 31 = some (excClassObj nm q 31 30 bs excBm true sn sub ab col dd k0 k1 k2 k3 k5 "Exception.__new__")) (hn : h.Ns 30 mN) (hs2 : mN name = none)
    (hB : typeLookup (.type "Exception") name = pure none) (hx : h.get? x = some o) (hc : o.cls = .ref 31) (hdn : o.dict = none) (hnc : ∀ c, o.data ≠ .cls c)
    (hq : ∀ h' tk' od, SymO (fun y => if y = name then some v else none) od → h'.get? h.objs.size = some od → h'.get? x = some { o with dict := some h.objs.size } → (∀ b o, b ≠ x → h.get? b = some o → h'.get? b = some o) → R (.ok (.ret .none)) ⟨h', g, d, tk', os⟩) :
    codeAny (model prog w) A (.call (.builtin sa) ⟨[.ref x, .str name tk, v], []⟩) R ⟨h, g, d, t, os⟩ :=
  codeAny_call_builtin SF.slot.plain SF.entry (wpAny_check_sa SF hC hx hc (sig_entry1 hC hn hs2 hB hx hc hdn hnc hq))
theorem sig_attr1 {o : Obj} {Q : Unit → Shared → Prop} (SF : StoreFacts "Exception" excBm sa owner) (hC : h.get? 31 = some (excClassObj nm q 31 30 bs excBm true sn sub ab col dd k0 k1 k2 k3 k5 "Exception.__new__")) (hn : h.Ns 30 mN) (hs1 : mN "__setattr__" = none) (hs2 : mN name = none)
    (hB : typeLookup (.type "Exception") name = pure none) (hx : h.get? x = some o) (hc : o.cls = .ref 31) (hdn : o.dict = none) (hnc : ∀ c, o.data ≠ .cls c)
    (hq : ∀ h' tk' od, SymO (fun y => if y = name then some v else none) od → h'.get? h.objs.size = some od → h'.get? x = some { o with dict := some h.objs.size } → (∀ b o, b ≠ x → h.get? b = some o → h'.get? b = some o) → Q () ⟨h', g, d, tk', os⟩) :
    wpAny (model prog w) A (setAttr (.ref x) name v) Q E ⟨h, g, d, t, os⟩ := by
  have f3 := SF.slot.bind (.ref x)
  unfold setAttr callSpecial? specialOf
  repeat (any_goals (first | assumption | (with_reducible refine wpAny_loadPart_at hx ?_; rw [hc]) | (with_reducible refine wpAny_typeLookup_exc hC hn SF.mro SF.slot.lookup ?_; rw [hs1]) | wp_step))
  refine sig_call1 SF hC hn hs2 hB hx hc hdn hnc (fun h' tk' od a1 a2 a3 a4 => ?_)
  repeat (any_goals (first | assumption | wp_step))
  exact hq h' tk' od a1 a2 a3 a4
end
end
end
-- KbRc
section
open PySem.Spec PySem.Calls PyProof.Rows.LCg
/-- a dict that tells the sign of the signal -/
def SigO (od : Obj) : Prop := ∃ es n, od.data = .dict es n ∧ StrKeys es ∧ ∃ t, nsFind es "symbol" = some (.str (Str.ofString "error") t)
/-- a name laid on a signal: its dict comes to the ledger -/
def TellS (w : World) (f : Addr) (vs : List Value) (x T0 : Addr) (news : Led) (d u : Nat) : Prop :=
  ∀ (mean : ExcName → Option Value) (mg mb : Str → Option Value) (dp un : Nat) (gd : Option (List Code)) (cn : Str) (cs : Scope) (a : Addr) (ccd : Value) (cl : List (Str × Addr)) (outer : List Env) (A₀ : Around) (base h₀ : Heap) (L : Addr) (m : Str → Option Value) (s : Shared) (Q E : Value → Shared → Prop),
    Below A₀ base outer h₀ → Fr h₀ L s.heap m → (hd.heap_39 w.params).In h₀ → News h₀ L s.heap ((x, excO T0 none) :: news) → Top hd.view_39 LS mean mg mb h₀ → cs.kind = .function → dp + d < recursionLimit → un + u < cLine →
    (∀ dx od h' tk', Fr h₀ L h' m → News h₀ L h' ((dx, od) :: (x, excO T0 (some dx)) :: news) → SigO od → (∀ p ∈ news, p.1 ≠ dx) → dx ≠ x → Q .none { s with heap := h', toks := tk' }) →
    wpAny (model PySem.Challenge.pw_np0049_01 w) (ktrTop dp un gd cn cs L a ccd cl outer) (call (.ref f) vs) Q E s
theorem fr_kept {h₀ h h' : Heap} {L x : Addr} {m : Str → Option Value} (F : Fr h₀ L h m) (hL : x ≠ L) (h0 : h₀.get? x = none) (k : ∀ b o, b ≠ x → h.get? b = some o → h'.get? b = some o) : Fr h₀ L h' m := by
  obtain ⟨o, es, ep, e, r⟩ := F.ns
  exact ⟨⟨o, es, ep, k _ _ (fun q => hL q.symm) e, r⟩, fun b o e => k b o (fun q => by rw [q, h0] at e; cases e) (F.keep b o e), F.above⟩
theorem news_kept {h₀ h h' : Heap} {L x : Addr} {l : Led} (N : News h₀ L h l) (hoff : ∀ p ∈ l, p.1 ≠ x) (k : ∀ b o, b ≠ x → h.get? b = some o → h'.get? b = some o) : News h₀ L h' l := fun p hp =>
  ⟨k _ _ (hoff p hp) (N p hp).1, (N p hp).2⟩
section
variable {w : World} {A : Around} {E : Value → Shared → Prop} {s : Shared} {h₀ : Heap} {L : Addr} {m : Str → Option Value} {x T0 l : Addr} {news : Led}
theorem sig_set1 {t9 : Tok} {Q : Unit → Shared → Prop} (X : (hd.heap_39 w.params).In h₀) (F : Fr h₀ L s.heap m) (N : News h₀ L s.heap ((x, excO T0 none) :: news)) (hoff : ∀ p ∈ news, p.1 ≠ x)
    (h : ∀ dx od h' tk', Fr h₀ L h' m → News h₀ L h' ((dx, od) :: (x, excO T0 (some dx)) :: news) → SymO (fun y => if y = Str.ofString "symbol" then some (.str (Str.ofString "error") t9) else none) od → (∀ p ∈ news, p.1 ≠ dx) → dx ≠ x → Q () { s with heap := h', toks := tk' }) :
    wpAny (model PySem.Challenge.pw_np0049_01 w) A (setAttr (.ref x) (Str.ofString "symbol") (.str (Str.ofString "error") t9)) Q E s := by
  obtain ⟨nm, q, bs, sn, sub, ab, col, dd, k0, k1, k2, k3, k5, hC⟩ := cls31 (X.keeps F.keep)
  obtain ⟨mN, hn, _, hs1, hs2, _⟩ := ns30 (X.keeps F.keep)
  obtain ⟨hp, g, d, tk, os⟩ := s
  have z := N _ (.head _)
  refine sig_attr1 PySem.F.store_Exception hC hn hs1 hs2 (lk_none (by kernel_rfl)) z.1 rfl rfl (fun c => by simp) fun h' tk' od a1 a2 a3 a4 => ?_
  have hlt := Heap.lt_size z.1
  have F' := fr_kept F z.2.1 z.2.2 a4
  have fresh : ∀ p ∈ news, p.1 ≠ hp.objs.size := fun p hp => Nat.ne_of_lt (Heap.lt_size (N p (.tail _ hp)).1)
  refine h hp.objs.size od h' tk' F' (fun p hp' => ?_) a1 fresh (Nat.ne_of_gt hlt)
  rcases List.mem_cons.mp hp' with rfl | hp'
  · exact ⟨a2, Nat.ne_of_gt F.ns.lt, none_at_size F⟩
  · rcases List.mem_cons.mp hp' with rfl | hp'
    · exact ⟨a3, z.2⟩
    · exact ⟨a4 _ _ (hoff p hp') (N p (.tail _ hp')).1, (N p (.tail _ hp')).2⟩
theorem sig_set2 {t9 : Tok} {v : Value} {dx : Addr} {od : Obj} {Q : Unit → Shared → Prop} (X : (hd.heap_39 w.params).In h₀) (F : Fr h₀ L s.heap m) (N : News h₀ L s.heap ((dx, od) :: (x, excO T0 (some dx)) :: news)) (hoff : ∀ p ∈ news, p.1 ≠ x) (hoff2 : ∀ p ∈ news, p.1 ≠ dx) (hne : dx ≠ x)
    (hs : SymO (fun y => if y = Str.ofString "symbol" then some (.str (Str.ofString "error") t9) else none) od)
    (h : ∀ od h' tk', Fr h₀ L h' m → News h₀ L h' ((dx, od) :: (x, excO T0 (some dx)) :: news) → SigO od → Q () { s with heap := h', toks := tk' }) :
    wpAny (model PySem.Challenge.pw_np0049_01 w) A (setAttr (.ref x) (Str.ofString "data") v) Q E s := by
  obtain ⟨nm, q, bs, sn, sub, ab, col, dd, k0, k1, k2, k3, k5, hC⟩ := cls31 (X.keeps F.keep)
  obtain ⟨mN, hn, _, hs1, _, hs2, _⟩ := ns30 (X.keeps F.keep)
  obtain ⟨hp, g, d, tk, os⟩ := s
  have z1 := N _ (.head _)
  have z := N _ (.tail _ (.head _))
  obtain ⟨es, n, e1, e2, e3, e4⟩ := hs
  have I : hp.Inst x 31 (fun y => if y = Str.ofString "symbol" then some (.str (Str.ofString "error") t9) else none) := ⟨_, z.1, rfl, fun c => by simp, .inr ⟨dx, rfl, hne, od, es, n, z1.1, e1, e2, e3, e4⟩⟩
  have hx31 : x ≠ 31 := fun e => by
    have := X 31 _ rfl
    have z2 := z.2.2
    rw [e] at z2
    rw [z2] at this
    cases this
  refine store_attr (ns := [Str.ofString "symbol"]) PySem.F.store_Exception hC hn hs1 hs2 (lk_none (by kernel_rfl)) hx31 I (fun h' tk' I' kp sm => ?_) (Within.cons _ _ Within.nil) (by simp [sizeLine_eq])
  obtain ⟨o1, b1, b2, b3, b4, b5⟩ := sm _ z.1
  have b6 := b5 dx rfl
  have ho1 : o1 = excO T0 (some dx) := by
    obtain ⟨oc, od', odt, osl⟩ := o1
    dsimp only at b2 b3 b4 b6
    rw [b2, b3, b4, b6]
  obtain ⟨o2, c1, c2, c3, c4⟩ := I'
  rw [b1] at c1
  cases c1
  rcases c4 with ⟨c5, _⟩ | ⟨d2, c5, c6, od2, es2, n2, f1, f2, f3, f4, f5⟩
  · rw [b6] at c5; cases c5
  rw [b6] at c5
  cases c5
  have kp' : ∀ b o, b ≠ x → b ≠ dx → hp.get? b = some o → h'.get? b = some o := fun b o hb hb2 e => kp b o hb (fun o₀ dx' q1 q2 => by rw [z.1] at q1; cases q1; cases q2; exact hb2) e
  obtain ⟨oL, esL, epL, eL, rL⟩ := F.ns
  refine h od2 h' tk' ⟨⟨oL, esL, epL, kp' _ _ z.2.1.symm z1.2.1.symm eL, rL⟩, fun b o e => kp' b o (fun q => by rw [q, z.2.2] at e; cases e) (fun q => by rw [q, z1.2.2] at e; cases e) (F.keep b o e), F.above⟩ (fun p hp' => ?_) ⟨es2, n2, f2, f3, t9, ?_⟩
  · rcases List.mem_cons.mp hp' with rfl | hp'
    · exact ⟨f1, z1.2⟩
    · rcases List.mem_cons.mp hp' with rfl | hp'
      · exact ⟨by rw [b1, ho1], z.2⟩
      · exact ⟨kp' _ _ (hoff p hp') (hoff2 p hp') (N p (.tail _ (.tail _ hp'))).1, (N p (.tail _ (.tail _ hp'))).2⟩
  · rw [f5]
    show (if Str.ofString "symbol" = Str.ofString "data" then some v else if Str.ofString "symbol" = Str.ofString "symbol" then some (Value.str (Str.ofString "error") t9) else none) = _
    rw [if_neg (by decide +kernel), if_pos rfl]
end
section
theorem tell_sig_init {w : World} {x T0 l : Addr} {t9 : Tok} {news : Led} (hoff : ∀ p ∈ news, p.1 ≠ x) : TellS w 28 [.ref x, .str (Str.ofString "error") t9, .ref l] x T0 news 2 16 := by
  k_with_none
  k_with "execs cons" => (k_here; with_reducible refine exs_cons fun _ => ?_; k_fold)
  k_with "setAttr ref str" => (k_here; with_reducible refine held_ ?_)
  k_with "setAttr ref ref" => (k_here; with_reducible refine held_ ?_)
  have hfill : (PySem.Challenge.rw_np0049_01, hd.heap_39) = (PySem.Challenge.rw_np0049_01, hd.heap_39) := by k_fill; rfl
  clear hfill
  intro mean mg mb dp un gd cn cs a ccd cl outer A₀ base h₀ L m s Q E B F X N T hk hd hu hret
  refine wpAny_call ?_
  k_dflt (refine' code_defN ?k1 ?k2 ?k3 ?k4 ?k5 ?kA ?kF ?kK ?k6 ?k7 ?k8 ?k9 ?kB ?hl ?_ ?c2 ?c3 ?c4 ?c5; (case kA => exact rfl); (case kF => exact rfl); (case kK => assumption); (case k1 => k_asm); (case k2 => k_asm); (case k3 => k_asm); (case k4 => k_asm); (case k5 => k_asm); (case k6 => k_is); (case k7 => k_is); (case k8 => first | exact room0 hd | ktr_room); (case k9 => exact BindsTo.of_eq rfl); (case c5 => decide); (case kB => exact locs rfl); (case hl => first | exact (rfl : _ = [(_, _)]) | exact (rfl : _ = [(_, _), (_, _)]) | exact (rfl : _ = [(_, _), (_, _), (_, _)]) | exact rfl); (case c2 => exact rfl); (case c3 => exact rfl); (case c4 => exact rfl); k_whole; intro g' L' h' tkE FG' F' N' B' X' T'; (try dsimp only); (try k_lift B'); (try k_fold))
  (change let ev : Env := _; wpAny _ (Around.deeper _ ev) (execs _ ev) _ _ _)
  intro ev
  (change let Ax : Around := _; wpAny _ Ax (execs _ ev) _ _ _)
  intro Ax
  k_steps
  refine heldI (sig_set1 (by k_asm) (by k_asm) (by k_asm) hoff fun dx od h1 tk1 F1 N1 hs hf hne => ?_)
  k_steps
  refine heldI (sig_set2 (by k_asm) (by k_asm) (by k_asm) hoff hf hne hs fun od2 h2 tk2 F2 N2 hs2 => ?_)
  k_steps
  all_goals exact hret _ _ _ _ (by k_asm) (by k_asm) hs2 hf hne
end
end
-- KbRd
section
open PySem.Spec PySem.Calls PyProof.Rows.LCg
section
variable {w : World} {A : Around} {E : Value → Shared → Prop} {s : Shared} {h₀ : Heap} {L : Addr} {m : Str → Option Value} {news : Led}
theorem exc_make {rest : List Value} {Q : Value → Shared → Prop} (X : (hd.heap_39 w.params).In h₀) (F : Fr h₀ L s.heap m) (N : News h₀ L s.heap news) (hr : rest.length ≤ 10)
    (h : ∀ x T0 h', Fr h₀ L h' m → News h₀ L h' ((x, excO T0 none) :: (T0, ({ cls := .type "tuple", data := .seq rest.toArray } : Obj)) :: news) → (∀ p ∈ news, p.1 ≠ x ∧ p.1 ≠ T0) → T0 ≠ x →
      wpAny (model PySem.Challenge.pw_np0049_01 w) (A.under (.builtin "type.__call__" ⟨.ref 31 :: rest, []⟩)) (call (.ref 28) (.ref x :: rest)) (fun r s' => r = .none ∧ Q (.ref x) s') E { s with heap := h' }) :
    wpAny (model PySem.Challenge.pw_np0049_01 w) A (call (.ref 31) rest) Q E s := by
  obtain ⟨nm, q, bs, sn, sub, ab, col, dd, k0, k1, k2, k3, k5, hC⟩ := cls31 (X.keeps F.keep)
  obtain ⟨mN, hn, hi, _⟩ := ns30 (X.keeps F.keep)
  obtain ⟨oI, hI, hIc⟩ := fn28 (X.keeps F.keep)
  obtain ⟨hp, g, d, tk, os⟩ := s
  refine wpAny_call_exc_init PySem.F.excBase_Exception hC hn hi hI hIc (fun h' x hm => ?_) (by rw [sizeLine_eq]; omega)
  obtain ⟨T0, e1, e2, e3⟩ := hm.there
  have fresh : ∀ {b : Addr}, hp.get? b = none → ∀ p ∈ news, p.1 ≠ b := fun hb p hp' e => by
    have := (N p hp').1
    rw [e] at this
    exact absurd (this.symm.trans hb) (by simp)
  have nL : ∀ {b : Addr}, hp.get? b = none → b ≠ L := fun hb e => by
    obtain ⟨o, es, ep, eL, _⟩ := F.ns
    rw [← e] at eL
    exact absurd (eL.symm.trans hb) (by simp)
  have n0 : ∀ {b : Addr}, hp.get? b = none → h₀.get? b = none := fun hb => by
    cases q : h₀.get? _ with
    | none => rfl
    | some o => exact absurd ((F.keep _ _ q).symm.trans hb) (by simp)
  refine h x T0 h' (F.keeps hm.keeps) (fun p hp' => ?_) (fun p hp' => ⟨fresh hm.new p hp', fresh e2 p hp'⟩) (fun e => ?_)
  · rcases List.mem_cons.mp hp' with rfl | hp'
    · exact ⟨e1, nL hm.new, n0 hm.new⟩
    · rcases List.mem_cons.mp hp' with rfl | hp'
      · exact ⟨e3, nL e2, n0 e2⟩
      · exact ⟨hm.keeps _ _ (N p hp').1, (N p hp').2⟩
  · rw [e] at e3
    rw [e1] at e3
    cases e3
end
/-- the signal is made -/
def TellB (w : World) (f : Addr) (vs : List Value) (news : Led) (d u : Nat) : Prop :=
  ∀ (mean : ExcName → Option Value) (mg mb : Str → Option Value) (dp un : Nat) (gd : Option (List Code)) (cn : Str) (cs : Scope) (a : Addr) (ccd : Value) (cl : List (Str × Addr)) (outer : List Env) (A₀ : Around) (base h₀ : Heap) (L : Addr) (m : Str → Option Value) (s : Shared) (Q E : Value → Shared → Prop),
    Below A₀ base outer h₀ → Fr h₀ L s.heap m → (hd.heap_39 w.params).In h₀ → News h₀ L s.heap news → Top hd.view_39 LS mean mg mb h₀ → cs.kind = .function → dp + d < recursionLimit → un + u < cLine →
    (∀ x T0 dx od h' tk', Fr h₀ L h' m → News h₀ L h' ((dx, od) :: (x, excO T0 (some dx)) :: news) → SigO od → (∀ p ∈ news, p.1 ≠ dx ∧ p.1 ≠ x) → dx ≠ x → Q (.ref x) { s with heap := h', toks := tk' }) →
    wpAny (model PySem.Challenge.pw_np0049_01 w) (ktrTop dp un gd cn cs L a ccd cl outer) (call (.ref f) vs) Q E s
theorem mk_weight (C : Addr) (vals : List Value) : Code.weight (.builtin "type.__call__" ⟨.ref C :: vals, []⟩) = 1 := rfl
theorem mk_units (C : Addr) (vals : List Value) : Code.cUnits (.builtin "type.__call__" ⟨.ref C :: vals, []⟩) = 1 := rfl
section
theorem tell_bad_word {w : World} {x : Str} {t : Tok} {news : Led} (hx : x.length ≤ 4000) : TellB w 212 [.str x t] news 6 48 := by
  k_with_none
  k_with "execs cons" => (k_here; with_reducible refine exs_cons fun _ => ?_; k_fold)
  k_with "call ref" => (k_here; with_reducible refine held_ ?_)
  have hfill : (PySem.Challenge.rw_np0049_01, hd.heap_39) = (PySem.Challenge.rw_np0049_01, hd.heap_39) := by k_fill; rfl
  clear hfill
  intro mean mg mb dp un gd cn cs a ccd cl outer A₀ base h₀ L m s Q E B F X N T hk hd hu hret
  refine wpAny_call ?_
  k_dflt (refine' code_defN ?k1 ?k2 ?k3 ?k4 ?k5 ?kA ?kF ?kK ?k6 ?k7 ?k8 ?k9 ?kB ?hl ?_ ?c2 ?c3 ?c4 ?c5; (case kA => exact rfl); (case kF => exact rfl); (case kK => assumption); (case k1 => k_asm); (case k2 => k_asm); (case k3 => k_asm); (case k4 => k_asm); (case k5 => k_asm); (case k6 => k_is); (case k7 => k_is); (case k8 => first | exact room0 hd | ktr_room); (case k9 => exact BindsTo.of_eq rfl); (case c5 => decide); (case kB => exact locs rfl); (case hl => first | exact (rfl : _ = [(_, _)]) | exact (rfl : _ = [(_, _), (_, _)]) | exact (rfl : _ = [(_, _), (_, _), (_, _)]) | exact rfl); (case c2 => exact rfl); (case c3 => exact rfl); (case c4 => exact rfl); k_whole; intro g' L' h' tkE FG' F' N' B' X' T'; (try dsimp only); (try k_lift B'); (try k_fold))
  k_steps
  refine heldI (exc_make (by k_asm) (by k_asm) (by k_asm) (by simp) fun x1 T1 h1 F1 N1 hf1 hne1 => ?_)
  refine tell_sig_init (fun p hp => ?_) mean mg mb _ _ _ _ _ _ _ _ _ _ _ _ _ _ _ _ _ (by k_asm) (by k_asm) (by k_asm) (by k_asm) (by k_asm) rfl (by rw [mk_weight]; ktr_room) (by rw [mk_units]; ktr_units) fun dx od h2 tk2 F2 N2 hs hf2 hne2 => ⟨rfl, ?_⟩
  · rcases List.mem_cons.mp hp with rfl | hp
    · exact hne1
    · exact (hf1 p hp).1
  k_steps
  all_goals exact hret x1 T1 dx od h2 _ (by k_asm) (cb_drop (by k_asm) (by kstt_sub)) hs (fun p hp => ⟨hf2 p (.tail _ (.tail _ hp)), (hf1 p (.tail _ hp)).1⟩) hne2
end
end
-- KbRe
section
open Sem (wp)
/-- every object that lives keeps its own dict -/
def DK (h h' : Heap) : Prop := ∀ b o, h.get? b = some o → ∃ o', h'.get? b = some o' ∧ o'.dict = o.dict
theorem DK.refl (h : Heap) : DK h h := fun _ o e => ⟨o, e, rfl⟩
theorem DK.trans {h₁ h₂ h₃ : Heap} (x : DK h₁ h₂) (y : DK h₂ h₃) : DK h₁ h₃ := fun b o e => by
  obtain ⟨o1, e1, d1⟩ := x b o e
  obtain ⟨o2, e2, d2⟩ := y b o1 e1
  exact ⟨o2, e2, d2.trans d1⟩
theorem DK.push (h : Heap) (o : Obj) : DK h (h.push o) := fun _ o' e => ⟨o', Heap.get?_push_of_some _ e, rfl⟩
theorem DK.update {h : Heap} {a : Addr} {f : Obj → Obj} (hf : ∀ o : Obj, o.isFreed = false → (f o).isFreed = false ∧ (f o).dict = o.dict) : DK h (h.update a f) := fun b o e => by
  have nf := (Heap.get?_some_iff.mp e).2
  by_cases q : a = b
  · subst q
    exact ⟨f o, Heap.get?_update_self f e (hf o nf).1, (hf o nf).2⟩
  · exact ⟨o, (Heap.get?_update_other _ _ q).trans e, rfl⟩
/-- a tree that keeps the dicts -/
structure Keeps {α : Type} (t : Sem α) : Prop where
  out : ∀ (M : Model) (Γ : PySem.Ctx) (P : α → Pos → Shared → Prop) (Ee : Value → Pos → Shared → Prop) (p : Pos) (s : Shared), wp M Γ t P Ee p s →
    wp M Γ t (fun a p' s' => P a p' s' ∧ DK s.heap s'.heap) (fun e p' s' => Ee e p' s' ∧ DK s.heap s'.heap) p s
section
variable {α β : Type}
theorem Keeps.pure (a : α) : Keeps (Pure.pure a : Sem α) := ⟨fun _ _ _ _ _ s h => ⟨h, DK.refl _⟩⟩
theorem Keeps.unsupported (w : String) : Keeps (PySem.unsupported w : Sem α) := ⟨fun _ _ _ _ _ _ h => h⟩
theorem Keeps.bind {m : Sem α} {f : α → Sem β} (hm : Keeps m) (hf : ∀ a, Keeps (f a)) : Keeps (m >>= f) := ⟨fun M Γ P Ee p s h => by
  rw [Sem.wp_bind'] at h ⊢
  have h2 := hm.out M Γ _ Ee p s h
  refine Sem.wp_mono M Γ m (fun a p' s' h' => ?_) (fun _ _ _ x => x) p s h2
  refine Sem.wp_mono M Γ (f a) (fun b p'' s'' h'' => ⟨h''.1, h'.2.trans h''.2⟩) (fun e p'' s'' h'' => ⟨h''.1, h'.2.trans h''.2⟩) p' s' ((hf a).out M Γ P Ee p' s' h'.1)⟩
theorem Keeps.ite {c : Prop} [Decidable c] {t u : Sem α} (ht : Keeps t) (hu : Keeps u) : Keeps (if c then t else u) := by split <;> assumption
theorem Keeps.load (a : Addr) : Keeps (PySem.load a) := ⟨fun M Γ P Ee p s h => by
  obtain ⟨o, ho, h⟩ := h
  exact ⟨o, ho, h, DK.refl _⟩⟩
theorem Keeps.update (a : Addr) (f : Obj → Obj) (hf : ∀ o : Obj, o.isFreed = false → (f o).isFreed = false ∧ (f o).dict = o.dict) : Keeps (PySem.update a f) := ⟨fun M Γ P Ee p s h => by
  obtain ⟨h1, h2⟩ := h
  exact ⟨h1, h2, DK.update hf⟩⟩
theorem Keeps.stack : Keeps PySem.stack := ⟨fun M Γ P Ee p s h => by
  unfold PySem.stack at h ⊢
  rw [Sem.wp_stack] at h ⊢
  exact ⟨h, DK.refl _⟩⟩
theorem Keeps.alloc (o : Obj) : Keeps (PySem.alloc o) := ⟨fun M Γ P Ee p s h => ⟨h, DK.push _ _⟩⟩
theorem Keeps.field (v : Value) (i : Nat) : Keeps (PySem.field v i) := ⟨fun M Γ P Ee p s h => by
  rw [PySem.wp_field_iff] at h ⊢
  obtain ⟨a, o, vs, x, e, ho, hd, hx, h⟩ := h
  exact ⟨a, o, vs, x, e, ho, hd, hx, h, DK.refl _⟩⟩
theorem Keeps.setField (v : Value) (i : Nat) (x : Value) : Keeps (PySem.setField v i x) := ⟨fun M Γ P Ee p s h => by
  rw [PySem.wp_setField_iff] at h ⊢
  obtain ⟨a, o, vs, e, ho, hd, hx, h⟩ := h
  refine ⟨a, o, vs, e, ho, hd, hx, h, DK.update fun o nf => ?_⟩
  obtain ⟨c, d, dt, sl⟩ := o
  cases dt <;> first | exact ⟨nf, rfl⟩ | exact ⟨rfl, rfl⟩⟩
end
theorem slots_keep {f : Obj → Array (Option Value)} : ∀ o : Obj, o.isFreed = false → ({ o with slots := f o } : Obj).isFreed = false ∧ ({ o with slots := f o } : Obj).dict = o.dict := fun o nf => by
  obtain ⟨c, d, dt, sl⟩ := o
  cases dt <;> first | exact ⟨nf, rfl⟩ | exact ⟨rfl, rfl⟩
theorem keeps_behindIsImport (env : Env) (outer : List Env) : Keeps (behindIsImport env outer) := by
  unfold behindIsImport
  (repeat' with_reducible first | assumption | exact Keeps.pure _ | exact Keeps.unsupported _ | exact Keeps.field _ _ | exact Keeps.setField _ _ _ | exact Keeps.load _ | exact Keeps.update _ _ slots_keep | exact Keeps.stack | exact Keeps.alloc _ | apply Keeps.ite | apply Keeps.bind | intro _ | split)
theorem keeps_underTheClaimsCaller : Keeps underTheClaimsCaller := by
  unfold underTheClaimsCaller
  (repeat' with_reducible first | assumption | exact Keeps.pure _ | exact Keeps.unsupported _ | exact Keeps.field _ _ | exact Keeps.setField _ _ _ | exact Keeps.load _ | exact Keeps.update _ _ slots_keep | exact Keeps.stack | exact Keeps.alloc _ | apply Keeps.ite | apply Keeps.bind | intro _ | split)
theorem keeps_keptBack (env : Env) (i : Bool) (l : List Env) : Keeps (keptBack env i l) := by
  have := keeps_underTheClaimsCaller
  cases l <;> unfold keptBack <;> (repeat' with_reducible first | assumption | exact Keeps.pure _ | exact Keeps.unsupported _ | exact Keeps.field _ _ | exact Keeps.setField _ _ _ | exact Keeps.load _ | exact Keeps.update _ _ slots_keep | exact Keeps.stack | exact Keeps.alloc _ | apply Keeps.ite | apply Keeps.bind | intro _ | split)
theorem keeps_readyFrames : ∀ l : List Env, Keeps (readyFrames l)
  | [] => Keeps.pure _
  | env :: outer => by
    have ih := keeps_readyFrames outer
    have h1 := keeps_behindIsImport env outer
    have h2 := fun i => keeps_keptBack env i outer
    unfold readyFrames
    (repeat' with_reducible first | assumption | exact Keeps.pure _ | exact Keeps.unsupported _ | exact Keeps.field _ _ | exact Keeps.setField _ _ _ | exact Keeps.load _ | exact Keeps.update _ _ slots_keep | exact Keeps.stack | exact Keeps.alloc _ | apply Keeps.ite | apply Keeps.bind | intro _ | split)
    all_goals first | exact h2 _ | exact Keeps.update _ _ slots_keep
theorem keeps_frameObject (l : List Env) : Keeps (frameObject l) := by
  cases l with
  | nil => exact Keeps.pure _
  | cons env outer =>
    have := keeps_readyFrames (env :: outer)
    unfold frameObject
    (repeat' with_reducible first | assumption | exact Keeps.pure _ | exact Keeps.unsupported _ | exact Keeps.field _ _ | exact Keeps.setField _ _ _ | exact Keeps.load _ | exact Keeps.update _ _ slots_keep | exact Keeps.stack | exact Keeps.alloc _ | apply Keeps.ite | apply Keeps.bind | intro _ | split)
theorem keeps_frameEnvs : Keeps frameEnvs := by
  unfold frameEnvs
  (repeat' with_reducible first | assumption | exact Keeps.pure _ | exact Keeps.unsupported _ | exact Keeps.field _ _ | exact Keeps.setField _ _ _ | exact Keeps.load _ | exact Keeps.update _ _ slots_keep | exact Keeps.stack | exact Keeps.alloc _ | apply Keeps.ite | apply Keeps.bind | intro _ | split)
theorem keeps_frameOf (env : Env) : Keeps (PySem.frameOf env) := by
  have h1 := keeps_frameEnvs
  have h2 := keeps_frameObject
  unfold PySem.frameOf
  (repeat' with_reducible first | assumption | exact Keeps.pure _ | exact Keeps.unsupported _ | exact Keeps.field _ _ | exact Keeps.setField _ _ _ | exact Keeps.load _ | exact Keeps.update _ _ slots_keep | exact Keeps.stack | exact Keeps.alloc _ | apply Keeps.ite | apply Keeps.bind | intro _ | split)
  all_goals exact h2 _
theorem keeps_entryPlaceOf (f : Addr) (hadNext : Bool) : Keeps (entryPlaceOf f hadNext) := by
  unfold entryPlaceOf
  (repeat' with_reducible first | assumption | exact Keeps.pure _ | exact Keeps.unsupported _ | exact Keeps.field _ _ | exact Keeps.setField _ _ _ | exact Keeps.load _ | exact Keeps.update _ _ slots_keep | exact Keeps.stack | exact Keeps.alloc _ | apply Keeps.ite | apply Keeps.bind | intro _ | split)
theorem keeps_newEntry (a b c d e : Value) (l : List Value) : Keeps (EntryCells.newEntry a b c d e l) := by
  unfold EntryCells.newEntry newFields newObj newObjAsIs
  (repeat' with_reducible first | assumption | exact Keeps.pure _ | exact Keeps.unsupported _ | exact Keeps.field _ _ | exact Keeps.setField _ _ _ | exact Keeps.load _ | exact Keeps.update _ _ slots_keep | exact Keeps.stack | exact Keeps.alloc _ | apply Keeps.ite | apply Keeps.bind | intro _ | split)
theorem keeps_setFlight (e : Value) (f : Option Addr) : Keeps (setFlight e f) := by
  unfold setFlight
  (repeat' with_reducible first | assumption | exact Keeps.pure _ | exact Keeps.unsupported _ | exact Keeps.field _ _ | exact Keeps.setField _ _ _ | exact Keeps.load _ | exact Keeps.update _ _ slots_keep | exact Keeps.stack | exact Keeps.alloc _ | apply Keeps.ite | apply Keeps.bind | intro _ | split)
theorem keeps_noteFrame (e : Value) (env : Env) : Keeps (noteFrame e env) := by
  have h1 := keeps_frameOf env
  have h2 := keeps_entryPlaceOf
  have h3 := keeps_newEntry
  unfold noteFrame
  (repeat' with_reducible first | assumption | exact Keeps.pure _ | exact Keeps.unsupported _ | exact Keeps.field _ _ | exact Keeps.setField _ _ _ | exact Keeps.load _ | exact Keeps.update _ _ slots_keep | exact Keeps.stack | exact Keeps.alloc _ | apply Keeps.ite | apply Keeps.bind | intro _ | split)
  all_goals first | exact h2 _ _ | exact h3 _ _ _ _ _ _ | skip
theorem keeps_leaving (env : Env) (e : Value) : Keeps (leaving env e) := by
  unfold leaving
  exact Keeps.bind (keeps_noteFrame _ _) fun _ => keeps_setFlight _ _
theorem keepAny {α : Type} {M : Model} {A : Around} {E : Value → Shared → Prop} {s : Shared} {t : Sem α} {Q : α → Shared → Prop} (K : Keeps t) (h : wpAny M A t Q E s) :
    wpAny M A t (fun a s' => Q a s' ∧ DK s.heap s'.heap) (fun e s' => E e s' ∧ DK s.heap s'.heap) s := fun Γ p hΓ => K.out M Γ _ _ p s (h Γ p hΓ)
end
-- KbRf
section
/-- a signal that flies -/
def Fly (base G : Heap) (l : List Env) (e dx : Addr) (od : Obj) (h : Heap) : Prop :=
  ∃ B a0, base.StaysIn B ∧ (∀ b o, G.get? b = some o → b ∉ l.filterMap (·.frame) → B.get? b = some o) ∧ (B.get? dx = some od ∧ G.get? dx = none ∧ base.get? dx = none) ∧ Heap.FlyingW B l e (.ref 31) a0 h ∧ ∃ oe, h.get? e = some oe ∧ oe.dict = some dx
section
variable {M : Model} {A : Around} {E : Value → Shared → Prop} {s' : Shared} {base g g₂ : Heap} {outer : List Env} {L a e dx T0 : Addr} {m : Str → Option Value} {name : Str} {scope : Scope} {cd : Value} {Q : Unit → Shared → Prop} {news : Led} {od : Obj}
theorem leave_sig1 (K : Below A base outer g) (F : Fr g L s'.heap m) (N : News g L s'.heap ((dx, od) :: (e, excO T0 (some dx)) :: news)) (hne : dx ≠ e)
    (hQ : ∀ h', Fly base g outer e dx od h' → g.UpToSlots h' → Q () { s' with heap := h' }) (hk : scope.kind = .function) :
    wpAny M (A.deeper (envOf name scope L a cd)) (leaving (envOf name scope L a cd) (.ref e)) Q E s' := by
  have K' := K.push (name := name) (a := a) (cd := cd) F hk
  obtain ⟨as, has⟩ : ∃ as, as = e :: (envOf name scope L a cd :: outer).filterMap (·.frame) := ⟨_, rfl⟩
  have z1 := N _ (.head _)
  have z2 := N _ (.tail _ (.head _))
  have noFrame : ∀ {b : Addr}, b ≠ L → g.get? b = none → b ∉ (envOf name scope L a cd :: outer).filterMap (·.frame) := fun hL h0 hm => by
    rcases kts_mem hm with rfl | hm
    · exact hL rfl
    · obtain ⟨_, o, ho, _⟩ := K.frames.mem hm
      rw [h0] at ho; cases ho
  have inB : ∀ b o, g.get? b = some o → b ∉ outer.filterMap (·.frame) → (hideAll s'.heap as).get? b = some o := fun b o q nm => hideAll_get _ (F.keep b o q) fun hm => by
    rw [has] at hm
    rcases List.mem_cons.mp hm with rfl | hm
    · rw [z2.2.2] at q; cases q
    · rcases kts_mem hm with rfl | hm
      · rw [kts_self F] at q; cases q
      · exact nm hm
  have st : base.StaysIn (hideAll s'.heap as) := fun b o q => hideAll_get _ (F.keep b o (K.stays b o q)) fun hm => by
    rw [has] at hm
    rcases List.mem_cons.mp hm with rfl | hm
    · have := K.stays _ _ q
      rw [z2.2.2] at this; cases this
    · rw [(K'.frames.mem hm).1] at q; cases q
  have hdx : (hideAll s'.heap as).get? dx = some od := hideAll_get _ z1.1 fun hm => by
    rw [has] at hm
    rcases List.mem_cons.mp hm with h | hm
    · exact hne h
    · exact noFrame z1.2.1 z1.2.2 hm
  have W := wpAny_leaving_firstW (M := M) (E := E) (a0 := .ref T0) (base := hideAll s'.heap as) (outer := outer) (Q := fun _ s'' => ∃ h', Heap.LeftW (hideAll s'.heap as) (envOf name scope L a cd :: outer) e (.ref 31) (.ref T0) s'.heap h' ∧ s'' = { s' with heap := h' })
    K'.stack (funFrames_hide K'.frames fun env he b hb => by rw [has]; exact .tail _ (List.mem_filterMap.mpr ⟨env, he, hb⟩)) rfl z2.1 (fun b o q => of_hideAll _ q) (hideAll_none _ (by rw [has]; exact .head _)) rfl rfl rfl (fun h' hL => ⟨h', hL, rfl⟩)
  refine wpAny_mono (keepAny (keeps_leaving _ _) W) ?_ fun _ _ x => x.1
  rintro ⟨⟩ s'' ⟨⟨h', ⟨k1, ⟨_, _, k2⟩, k3, k4⟩, rfl⟩, dk⟩
  obtain ⟨oe, e1, e2⟩ := dk _ _ z2.1
  refine hQ h' ⟨_, _, st, inB, ⟨hdx, z1.2.2, fresh_of_stays K.stays z1.2.2⟩, ⟨k1, hideAll_none _ (by rw [has]; exact .head _), k2, k3⟩, oe, e1, e2⟩ ((Heap.UpToSlots.of_keeps F.keep).trans k4)
theorem leave_sig2 (K : Below A base outer g) (F : Fr g L g₂ m) (R : Fly base g₂ (envOf name scope L a cd :: outer) e dx od s'.heap) (hsm : g₂.UpToSlots s'.heap)
    (hQ : ∀ h', Fly base g outer e dx od h' → g.UpToSlots h' → Q () { s' with heap := h' }) :
    wpAny M (A.deeper (envOf name scope L a cd)) (leaving (envOf name scope L a cd) (.ref e)) Q E s' := by
  obtain ⟨B, a0, hB, hBG, ⟨hd1, hd2, hd3⟩, hfl, oe, he, hed⟩ := R
  have W := wpAny_leaves_onW (M := M) (E := E) (Q := fun _ s'' => ∃ h', Heap.FlyingW B outer e (.ref 31) a0 h' ∧ s'.heap.UpToSlots h' ∧ s'' = { s' with heap := h' }) (Around.frames_deeper K.stack) rfl hfl (fun h' x1 x2 => ⟨h', x1, x2, rfl⟩)
  refine wpAny_mono (keepAny (keeps_leaving _ _) W) ?_ fun _ _ x => x.1
  rintro ⟨⟩ s'' ⟨⟨h', x1, x2, rfl⟩, dk⟩
  obtain ⟨oe', e1, e2⟩ := dk _ _ he
  refine hQ h' ⟨B, a0, hB, fun b o q nm => hBG b o (F.keep b o q) (fun hm => ?_), ⟨hd1, kts_none F.keep hd2, hd3⟩, x1, oe', e1, e2.trans hed⟩ ((Heap.UpToSlots.of_keeps F.keep).trans (hsm.trans x2))
  rcases kts_mem hm with rfl | hm
  · rw [kts_self F] at q; cases q
  · exact nm hm
end
section
variable {w : World} {A : Around} {E : Value → Shared → Prop} {s : Shared} {env : Env}
theorem raise_stmt {x : Sem Value} {Q : Flow → Shared → Prop} (hh : A.handled = none)
    (h : wpAny (model PySem.Challenge.pw_np0049_01 w) A x (fun v s₁ => ∃ e T0 dx, v = .ref e ∧ (hd.heap_39 w.params).In s₁.heap ∧ s₁.heap.get? e = some (excO T0 dx) ∧ E (.ref e) s₁) E s) :
    wpAny (model PySem.Challenge.pw_np0049_01 w) A (raiseStmt env (some x) none) Q E s := by
  have hcB : (Value.ref 31 :: excBm).contains (.type "BaseException") = true := by decide
  unfold raiseStmt
  refine wpAny_bind (wpAny_mono h (fun v s₁ h₁ => ?_) fun _ _ x => x)
  obtain ⟨e, T0, dx, rfl, X, he, hE⟩ := h₁
  obtain ⟨nm, q, bs, sn, sub, ab, col, dd, k0, k1, k2, k3, k5, hC⟩ := cls31 X
  clear X h
  obtain ⟨hp, g, d, tk, os⟩ := s₁
  repeat (first | with_reducible refine wpAny_loadPart_at he ?_ | with_reducible refine wpAny_loadPart_at hC ?_ | (with_reducible refine wpAny_isSubtype_exc hC ?_; rw [hcB]) | wp_step)
  exact wpAny_raiseNew_none hh hE
theorem raise_sig {x : Expr} {pos : Pos} {Q : Flow → Shared → Prop} (hh : A.handled = none)
    (h : wpAny (model PySem.Challenge.pw_np0049_01 w) A (eval x env) (fun v s₁ => ∃ e T0 dx, v = .ref e ∧ (hd.heap_39 w.params).In s₁.heap ∧ s₁.heap.get? e = some (excO T0 dx) ∧ E (.ref e) s₁) E s) :
    wpAny (model PySem.Challenge.pw_np0049_01 w) A (exec (.Raise (some x) none pos) env) Q E s := by
  rw [arm_exec_Raise]
  first
    | exact wpAny_bind (wpAny_standAt (raise_stmt hh (wpAny_bind (wpAny_mono h (fun v s₁ h₁ => wpAny_bind (wpAny_standAt (wpAny_pure h₁))) fun _ _ x => x))))
    | (simp only [evalOpt, Option.map]; exact wpAny_bind (wpAny_standAt (raise_stmt hh (wpAny_bind (wpAny_mono h (fun v s₁ h₁ => wpAny_bind (wpAny_standAt (wpAny_pure h₁))) fun _ _ x => x)))))
end
end
-- KbRj
section
section
variable {w : World} {A₀ : Around} {E : Value → Shared → Prop} {s' : Shared} {base g G : Heap} {outer : List Env} {L a e dx : Addr} {m : Str → Option Value} {name : Str} {scope : Scope} {cd : Value}
  {n : Str} {b₀ : Stmt} {suite : List Stmt} {pos np : Pos} {rest : List ExceptHandler} {Q : Flow → Shared → Prop} {od : Obj}
  {p : Program} {loose : List Str} {mean : ExcName → Option Value} {mg mb : Str → Option Value} {x : Str}
theorem caught_sig (R : Fly base G (envOf name scope L a cd :: outer) e dx od s'.heap) (hod : SigO od) (F : Fr g L G m) (K : Below A₀ base outer g) (hsm : G.UpToSlots s'.heap) (XB : (hd.heap_39 w.params).In base) (TB : Top p loose mean mg mb base)
    (ex : nsIn (hd.heap_39 w.params) mainGlobals x = some (some (.ref 31)))
    (k : ∀ h' g' oe tk, KtsTurn (outer.filterMap (·.frame)) g g' → Fr g' L h' (fun y => if y = n then some (.ref e) else m y) → News g' L h' [(e, oe), (dx, od)] → (oe.cls = .ref 31 ∧ oe.dict = some dx ∧ ∃ vs, oe.data = .fields vs) → Below A₀ base outer g' → (hd.heap_39 w.params).In g' → Top p loose mean mg mb g' →
      wpAny (model PySem.Challenge.pw_np0049_01 w) ((A₀.deeper (envOf name scope L a cd)).mark (some (.ref e))) (execs (b₀ :: suite) (envOf name scope L a cd))
        (fun f s₄ => wpAny (model PySem.Challenge.pw_np0049_01 w) (A₀.deeper (envOf name scope L a cd)) (do bindName (envOf name scope L a cd) n .none; unbindBehindTheSuite (envOf name scope L a cd) n pos) (fun _ s₅ => Q f s₅) E s₄)
        (AsSuiteRaised (model PySem.Challenge.pw_np0049_01 w) ((A₀.deeper (envOf name scope L a cd)).mark (some (.ref e))) (envOf name scope L a cd) n pos (notedBy (model PySem.Challenge.pw_np0049_01 w) ((A₀.deeper (envOf name scope L a cd)).mark (some (.ref e))) (envOf name scope L a cd) (cameBackBy (model PySem.Challenge.pw_np0049_01 w) (A₀.deeper (envOf name scope L a cd)) (envOf name scope L a cd) E)))
        { s' with heap := h', toks := tk })
    (hk : scope.kind = .function) (hlo : (envOf name scope L a cd).kindOf n = some .local) (hx : (envOf name scope L a cd).kindOf x = some .globalImplicit) (hd : (x == ("__debug__" : Str)) = false) :
    wpAny (model PySem.Challenge.pw_np0049_01 w) (A₀.deeper (envOf name scope L a cd)) (noteFrame (.ref e) (envOf name scope L a cd))
      (fun _ s₂ => wpAny (model PySem.Challenge.pw_np0049_01 w) (A₀.deeper (envOf name scope L a cd)) (setFlight (.ref e) none) (fun _ s₃ =>
        wpAny (model PySem.Challenge.pw_np0049_01 w) (A₀.deeper (envOf name scope L a cd)) (handleBy (.ref e) (envOf name scope L a cd) (.ExceptHandler (some (.Name x np)) (some n) (b₀ :: suite) pos :: rest)) Q E s₃) E s₂) E s' := by
  obtain ⟨B, a0, hB, hBG, ⟨hd1, hd2, hd3⟩, hfl, oe₀, he₀, hed₀⟩ := R
  have hBL : B.get? L = none := by
    obtain ⟨_, ⟨L', _, hf, hn', _⟩, _⟩ := hfl.2.2.1
    obtain rfl : L = L' := Option.some.inj hf
    exact hn'
  have W1 := wpAny_looks_onW (M := model PySem.Challenge.pw_np0049_01 w) (E := E) (Q := fun _ s'' => ∃ h', Heap.HeldW B (envOf name scope L a cd :: outer) e (.ref 31) a0 L h' ∧ s'.heap.UpToSlots h' ∧ s'' = { s' with heap := h' }) (Around.frames_deeper K.stack) rfl hfl (fun h' x1 x2 => ⟨h', x1, x2, rfl⟩)
  refine wpAny_mono (keepAny (keeps_noteFrame _ _) W1) ?_ fun _ _ x => x.1
  rintro ⟨⟩ s'' ⟨⟨h₄, held₄, sm₄, rfl⟩, dk₄⟩
  have W2 := wpAny_landsW (M := model PySem.Challenge.pw_np0049_01 w) (A := A₀.deeper (envOf name scope L a cd)) (E := E) (s := { s' with heap := h₄ }) (Q := fun _ s'' => ∃ h', Heap.FlyingW B (envOf name scope L a cd :: outer) e (.ref 31) a0 h' ∧ h₄.UpToSlots h' ∧ s'' = { s' with heap := h' }) held₄ (fun h' x1 x2 => ⟨h', x1, x2, rfl⟩)
  refine wpAny_mono (keepAny (keeps_setFlight _ _) W2) ?_ fun _ _ x => x.1
  rintro ⟨⟩ s'' ⟨⟨h₅, held, sm₅', rfl⟩, dk₅⟩
  have sm₅ := sm₄.trans sm₅'
  obtain ⟨g₅, T₅, F₅, K₅⟩ := kts_ground K F hBG held.1 (hsm.trans sm₅)
  have X₅ : (Mine.hd.heap_39 w.params).In g₅ := XB.keeps K₅.stays
  have P₅ : TopRead p loose mg mb g₅ := topRead_of (TB.keeps K₅.stays)
  obtain ⟨nm, q', bs, sn, sub, ab, col, dd, k0, k1, k2, k3, k5, hC₅⟩ := cls31 (X₅.keeps F₅.keep)
  obtain ⟨ob, hob, hobc⟩ := held.there
  refine wpAny_handleBy_cons (codeAny_handlers_test (name_K F₅ X₅ P₅ ex ?_ hk hx hd)) (by intro q; cases q)
  refine wpAny_excMatches_sub_self hC₅ hob hobc (by decide) (codeAny_handlers_suite_as ?_)
  have W3 := fun A' E' => lands_againW (M := model PySem.Challenge.pw_np0049_01 w) (A := A') (E := E') (s := { s' with heap := h₅ }) (Q := fun _ s'' => ∃ h', Heap.FlyingW B (envOf name scope L a cd :: outer) e (.ref 31) a0 h' ∧ h₅.UpToSlots h' ∧ s'' = { s' with heap := h' }) held (fun h' x1 x2 => ⟨h', x1, x2, rfl⟩)
  refine wpAny_mono (keepAny (keeps_setFlight _ _) (W3 _ _)) ?_ fun _ _ x => x.1
  rintro ⟨⟩ s'' ⟨⟨h₆, hfl₆, sm₆, rfl⟩, dk₆⟩
  obtain ⟨g₆, T₆, F₆, K₆⟩ := kts_ground K F hBG hfl₆.1 ((hsm.trans sm₅).trans sm₆)
  obtain ⟨oe, ws, hoe, hoec, hoed, hoe0⟩ := hfl₆.first
  obtain ⟨oe₆, he₆, hed₆⟩ := ((dk₄.trans dk₅).trans dk₆) _ _ he₀
  rw [hoe] at he₆
  cases he₆
  have ne₆ : g₆.get? e = none := T₆.none_ _ (kts_fresh F hBG hfl₆.2.1 fun o ho m => by
    obtain ⟨_, o', ho', hd⟩ := K.frames.mem m
    rw [ho] at ho'
    cases ho'
    obtain ⟨sl, hs⟩ := ((hsm.trans sm₅).trans sm₆) _ _ (F.keep _ _ ho) hd
    rw [hoe] at hs
    cases hs
    exact hd _ hoed)
  have nL : e ≠ L := fun q => by
    obtain ⟨oL, es, ep, eL, dL, _⟩ := F₆.ns
    rw [← q, hoe] at eL
    cases eL
    rw [hoed] at dL
    cases dL
  have nd : g₆.get? dx = none := T₆.none_ _ (kts_none F.keep hd2)
  have nLd : dx ≠ L := fun q => by rw [q, hBL] at hd1; cases hd1
  have N₆ : News g₆ L h₆ [(e, oe), (dx, od)] := fun q hq => by
    rcases List.mem_cons.mp hq with rfl | hq
    · exact ⟨hoe, nL, ne₆⟩
    · rw [List.mem_singleton.mp hq]; exact ⟨hfl₆.1 _ _ hd1, nLd, nd⟩
  refine stN F₆ N₆ (fun h₇ F₇ N₇ => ?_) hk hlo
  exact k h₇ g₆ oe _ T₆ F₇ N₇ ⟨hoec, hed₆.trans hed₀, ws, hoed⟩ K₆ (XB.keeps K₆.stays) (TB.keeps K₆.stays)
end
end
-- KbRk
section
section
variable {prog : Program} {w : World} {A : Around} {E : Value → Shared → Prop} {h : Heap} {g : Array GenState} {d : Drawn} {t : Nat} {os : OsState} {x dx : Addr} {o od : Obj} {name : Str} {v : Value} {vs : Array Value}
variable {nm q : Str} {bs : List Value} {sn : List Str} {sub : List Value} {ab : Bool} {col : Option Bool} {dd : Option Addr} {k0 k1 k2 k3 k5 : Option Value} {mN mA : Str → Option Value}
theorem sig_find {tk : Tok} {Q : Fin → Shared → Prop} (hC : h.get? 31 = some (excClassObj nm q 31 30 bs excBm true sn sub ab col dd k0 k1 k2 k3 k5 "Exception.__new__")) (hn : h.Ns 30 mN) (hna : mN name = none)
    (hB : typeLookup (.type "Exception") name = pure none) (hx : h.get? x = some o) (hc : o.cls = .ref 31) (hd : o.dict = some dx) (hv0 : o.data = .fields vs) (hns : h.Ns dx mA) (hv : mA name = some v) (hq : Q (.done (.ret v)) ⟨h, g, d, t, os⟩) :
    wpAny (model prog w) A (Builtin.«object.__getattribute__» ⟨[.ref x, .str name tk], []⟩) Q E ⟨h, g, d, t, os⟩ := by
  have hmro := PySem.F.excBase_Exception.mroIs
  unfold Builtin.«object.__getattribute__»
  repeat (first | (with_reducible refine wpAny_loadPart_at hx ?_; rw [hc]) | (with_reducible refine wpAny_typeLookup_exc hC hn hmro hB ?_; rw [hna]) | wp_step)
  rw [hv0]
  dsimp only
  unfold instanceDict
  repeat (first | (with_reducible refine wpAny_loadPart_at hx ?_; rw [hc]) | with_reducible refine wpAny_loadPart_at hC ?_ | wp_step)
  rw [hd]
  repeat (first | (with_reducible refine wpAny_nsGet hns ?_; rw [hv]) | wp_step)
  exact hq
theorem sig_call {tk : Tok} {R : Result → Shared → Prop} (hC : h.get? 31 = some (excClassObj nm q 31 30 bs excBm true sn sub ab col dd k0 k1 k2 k3 k5 "Exception.__new__")) (hn : h.Ns 30 mN) (hna : mN name = none)
    (hB : typeLookup (.type "Exception") name = pure none) (hx : h.get? x = some o) (hc : o.cls = .ref 31) (hd : o.dict = some dx) (hv0 : o.data = .fields vs) (hns : h.Ns dx mA) (hv : mA name = some v) (hq : R (.ok (.ret v)) ⟨h, g, d, t, os⟩) :
    codeAny (model prog w) A (.call (.builtin "BaseException.__getattribute__") ⟨[.ref x, .str name tk], []⟩) R ⟨h, g, d, t, os⟩ :=
  codeAny_call_builtin PySem.F.attrBase_Exception.ga.plain PySem.F.entry_bexc_ga (wpAny_check_ga_own PySem.F.attrBase_Exception hC .base hx hc (sig_find hC hn hna hB hx hc hd hv0 hns hv hq))
theorem sig_load {expr : Bool} {Q : Value → Shared → Prop} (hC : h.get? 31 = some (excClassObj nm q 31 30 bs excBm true sn sub ab col dd k0 k1 k2 k3 k5 "Exception.__new__")) (hn : h.Ns 30 mN) (hna : mN name = none) (hng : mN "__getattribute__" = none) (hnh : mN "__getattr__" = none)
    (hB : typeLookup (.type "Exception") name = pure none) (hx : h.get? x = some o) (hc : o.cls = .ref 31) (hd : o.dict = some dx) (hv0 : o.data = .fields vs) (hns : h.Ns dx mA) (hv : mA name = some v) (hh : handedOut v = pure v) (hq : Q v ⟨h, g, d, t + 1, os⟩) :
    wpAny (model prog w) A (getAttr (.ref x) name expr) Q E ⟨h, g, d, t, os⟩ := by
  have FB := PySem.F.attrBase_Exception
  have f3 := FB.ga.bind (.ref x)
  have hx0 : (expr && onTheHeap (Value.builtin "BaseException.__getattribute__")) = false := by cases expr <;> rfl
  have hx2 : (Value.builtin "BaseException.__getattribute__" == Value.builtin "object.__getattribute__") = false := by decide +kernel
  unfold getAttr getAttrBy
  repeat (any_goals (first | assumption | (with_reducible refine wpAny_loadPart_at hx ?_; rw [hc]) | (with_reducible refine wpAny_typeLookup_exc hC hn FB.mro FB.ga.lookup ?_; rw [hng]) | (with_reducible refine wpAny_typeLookup_exc hC hn FB.mro FB.noGetattr ?_; rw [hnh]) | wp_step))
  refine sig_call hC hn hna hB hx hc hd hv0 hns hv ?_
  show wpAny _ _ (handedOut v) _ _ _
  rw [hh]
  exact wpAny_pure hq
end
end
-- KbTm
section
open PySem.Builtin PySem.MeetsSeq PySem.MeetsSeq2 PySem.MeetsSeq3
set_option maxRecDepth 100000
theorem tm_noFill : fillsNumberSlot (.type "tuple") "mul" = Pure.pure false :=
  PySem.fillsNumberSlot_seq (id := "tuple.__mul__") (r := some (.builtin "tuple.__rmul__")) F.slot_tuple_mul.lookup (by decide +kernel) (by rw [typeLookup_type, builtinLookup_eq_fast]; kernel_rfl) (by decide +kernel)
theorem tm_repeat : seqRepeat? (.type "tuple") = Pure.pure (some (.builtin "tuple.__mul__")) := by
  unfold seqRepeat?
  rw [PySem.seqSlot_of (T := "tuple") (name := "__mul__") (id := "tuple.__mul__") F.slot_tuple_mul.lookup (by decide +kernel), PySem.seqSlot_of (T := "tuple") (name := "__rmul__") (id := "tuple.__rmul__") (by rw [typeLookup_type, builtinLookup_eq_fast]; kernel_rfl) (by decide +kernel)]
  rfl
theorem tm_rmul (a : Int) (t : Tok) (l : Addr) (items : Array Value) (n : Nat) :
    Meets (Builtin.«int.__rmul__» ⟨[.int a t, .ref l], []⟩) (fun _ R s => s.heap.get? l = some { cls := .type "tuple", dict := none, data := .seq items n, slots := #[] } ∧ R (.ok (.ret Value.notImplemented)) s) :=
  .of_wp fun prog w A R s h => by obtain ⟨hp, g, d, tk, os⟩ := s; obtain ⟨hl, h⟩ := h; wp_walk; exact ⟨_, rfl, h⟩
theorem tm_one (l : Addr) (v : Value) (n : Nat) (u : Tok) :
    Meets (Builtin.«tuple.__mul__» ⟨[.ref l, .int 1 u], []⟩) (fun _ R s => s.heap.get? l = some { cls := .type "tuple", dict := none, data := .seq #[v] n, slots := #[] } ∧ R (.ok (.ret (Value.ref l))) { s with heap := s.heap, toks := s.toks }) :=
  .of_wp fun prog w A R s h => by
    obtain ⟨hp, g, d, tk, os⟩ := s; obtain ⟨hl, h⟩ := h; have f1 := AutoSeq1.idx_int; have f2 := AutoSeq1.sub_tuple_tuple
    wp_walk using AutoSeq1.wpAny_loadPart' hl
    all_goals exact ⟨_, rfl, h⟩
theorem tm_none (l : Addr) (v : Value) (n : Nat) (u : Tok) :
    Meets (Builtin.«tuple.__mul__» ⟨[.ref l, .int 0 u], []⟩) (fun _ R s => s.heap.get? l = some { cls := .type "tuple", dict := none, data := .seq #[v] n, slots := #[] } ∧ R (.ok (.ret (Value.ref s.heap.objs.size))) { s with heap := s.heap.push { cls := Value.type "tuple", data := Data.seq #[] }, toks := s.toks }) :=
  .of_wp fun prog w A R s h => by
    obtain ⟨hp, g, d, tk, os⟩ := s; obtain ⟨hl, h⟩ := h; have f1 := AutoSeq1.idx_int; have f2 := AutoSeq1.sub_tuple_tuple
    wp_walk using AutoSeq1.wpAny_loadPart' hl
    all_goals exact ⟨_, rfl, h⟩
theorem tm_two (l : Addr) (v : Value) (n : Nat) (u : Tok) :
    Meets (Builtin.«tuple.__mul__» ⟨[.ref l, .int 2 u], []⟩) (fun _ R s => s.heap.get? l = some { cls := .type "tuple", dict := none, data := .seq #[v] n, slots := #[] } ∧ R (.ok (.ret (Value.ref s.heap.objs.size))) { s with heap := s.heap.push { cls := Value.type "tuple", data := Data.seq #[v, v] }, toks := s.toks }) :=
  .of_wp fun prog w A R s h => by
    obtain ⟨hp, g, d, tk, os⟩ := s; obtain ⟨hl, h⟩ := h; have f1 := AutoSeq1.idx_int; have f2 := AutoSeq1.sub_tuple_tuple
    wp_walk using AutoSeq1.wpAny_loadPart' hl
    all_goals exact ⟨_, rfl, h⟩
theorem tm_three (l : Addr) (v : Value) (n : Nat) (u : Tok) :
    Meets (Builtin.«tuple.__mul__» ⟨[.ref l, .int 3 u], []⟩) (fun _ R s => s.heap.get? l = some { cls := .type "tuple", dict := none, data := .seq #[v] n, slots := #[] } ∧ R (.ok (.ret (Value.ref s.heap.objs.size))) { s with heap := s.heap.push { cls := Value.type "tuple", data := Data.seq #[v, v, v] }, toks := s.toks }) :=
  .of_wp fun prog w A R s h => by
    obtain ⟨hp, g, d, tk, os⟩ := s; obtain ⟨hl, h⟩ := h; have f1 := AutoSeq1.idx_int; have f2 := AutoSeq1.sub_tuple_tuple
    wp_walk using AutoSeq1.wpAny_loadPart' hl
    all_goals exact ⟨_, rfl, h⟩
theorem tm_four (l : Addr) (v : Value) (n : Nat) (u : Tok) :
    Meets (Builtin.«tuple.__mul__» ⟨[.ref l, .int 4 u], []⟩) (fun _ R s => s.heap.get? l = some { cls := .type "tuple", dict := none, data := .seq #[v] n, slots := #[] } ∧ R (.ok (.ret (Value.ref s.heap.objs.size))) { s with heap := s.heap.push { cls := Value.type "tuple", data := Data.seq #[v, v, v, v] }, toks := s.toks }) :=
  .of_wp fun prog w A R s h => by
    obtain ⟨hp, g, d, tk, os⟩ := s; obtain ⟨hl, h⟩ := h; have f1 := AutoSeq1.idx_int; have f2 := AutoSeq1.sub_tuple_tuple
    wp_walk using AutoSeq1.wpAny_loadPart' hl
    all_goals exact ⟨_, rfl, h⟩
section
variable {w : World} {A : Around} {E : Value → Shared → Prop} {s : Shared} {h₀ : Heap} {L : Addr} {m : Str → Option Value} {news : Led} {l : Addr} {v : Value} {n : Nat} {u : Tok} {Q : Value → Shared → Prop}
theorem tm_road {x : Int} (hl : s.heap.get? l = some { cls := .type "tuple", dict := none, data := .seq #[v] n, slots := #[] })
    {S : PySem.Spec} (g : Meets (Builtin.«tuple.__mul__» ⟨[.ref l, .int x u], []⟩) S)
    (h : S A (wants Q E) s) : wpAny (model PySem.Challenge.pw_np0049_01 w) A (binaryOp .Mult (.ref l) (.int x u)) Q E s :=
  PySem.wpAny_binaryOp_repeat_ref (T := "tuple") (U := "int") (by decide) ⟨_, hl, rfl⟩ (fun s' => typeIs_int s' x u) tm_noFill F.fills_int_mul F.slot_int_rmul tm_repeat F.slot_int_index.lookup
    (call_meets F.slot_int_rmul (typeIs_int s x u) F.entry_int_rmul (F.args_int_rmul_2 _ _) (tm_rmul x u l #[v] n)
      ⟨hl, rfl, ⟨_, hl, rfl⟩, call_meets F.slot_tuple_mul ⟨_, hl, rfl⟩ F.entry_tuple_mul (F.args_tuple_mul_2 _ _) g h⟩)
theorem mul_tup1 {mm : Nat} (Fm : Fr h₀ L s.heap m) (N : News h₀ L s.heap news) (hmem : (l, ({ cls := .type "tuple", data := .seq #[v] n } : Obj)) ∈ news) (hmm : mm ≤ 4)
    (h : ∀ a h' n', Fr h₀ L h' m → News h₀ L h' ((a, ({ cls := .type "tuple", data := .seq (List.replicate mm v).toArray n' } : Obj)) :: news) → Q (.ref a) { s with heap := h' }) :
    wpAny (model PySem.Challenge.pw_np0049_01 w) A (binaryOp .Mult (.ref l) (.int (mm : Int) u)) Q E s := by
  have hl := (N _ hmem).1
  match mm, hmm with
  | 0, _ => exact tm_road hl (tm_none l v n u) ⟨hl, h s.heap.objs.size _ 0 (Fr.push Fm _) (PyProof.Rows.News.push Fm N _)⟩
  | 1, _ => exact tm_road hl (tm_one l v n u) ⟨hl, h l s.heap n Fm fun p hp => (List.mem_cons.mp hp).elim (fun e => by subst e; exact N _ hmem) (N p)⟩
  | 2, _ => exact tm_road hl (tm_two l v n u) ⟨hl, h s.heap.objs.size _ 0 (Fr.push Fm _) (PyProof.Rows.News.push Fm N _)⟩
  | 3, _ => exact tm_road hl (tm_three l v n u) ⟨hl, h s.heap.objs.size _ 0 (Fr.push Fm _) (PyProof.Rows.News.push Fm N _)⟩
  | 4, _ => exact tm_road hl (tm_four l v n u) ⟨hl, h s.heap.objs.size _ 0 (Fr.push Fm _) (PyProof.Rows.News.push Fm N _)⟩
end
end
-- KbW
section
/-- a call that makes a list of pairs -/
def PairsO (tps : List (Addr × Value × Value)) (o : Obj) (tl : Led) : Prop :=
  ∃ n, o = listOf (tps.map fun p => Value.ref p.1).toArray n ∧ tl = tps.map fun p => (p.1, ({ cls := .type "tuple", data := .seq #[p.2.1, p.2.2] } : Obj))
def bitsAre (tps : List (Addr × Value × Value)) : Prop := tps.length = 6 ∧ ∀ (i : Nat) (T : Addr) (x y : Value), tps[i]? = some (T, x, y) → ∃ c t u, modL[i]? = some c ∧ x = .str (Tx [c]) t ∧ y = .int (bitL c) u
def TellM (w : World) (f : Addr) (vs : List Value) (news : Led) (d u : Nat) (O : List (Addr × Value × Value) → Prop) : Prop :=
  ∀ (mean : ExcName → Option Value) (mg mb : Str → Option Value) (dp un : Nat) (gd : Option (List Code)) (cn : Str) (cs : Scope) (a : Addr) (ccd : Value) (cl : List (Str × Addr)) (outer : List Env) (A₀ : Around) (base h₀ : Heap) (L : Addr) (m : Str → Option Value) (s : Shared) (Q E : Value → Shared → Prop),
    Below A₀ base outer h₀ → Fr h₀ L s.heap m → (hd.heap_39 w.params).In h₀ → News h₀ L s.heap news → Top hd.view_39 LS mean mg mb h₀ → cs.kind = .function → dp + d < recursionLimit → un + u < cLine →
    (∀ D n tps h' tk', Fr h₀ L h' m → News h₀ L h' ((D, listOf (tps.map fun p => Value.ref p.1).toArray n) :: (tps.map (fun p => (p.1, ({ cls := .type "tuple", data := .seq #[p.2.1, p.2.2] } : Obj))) ++ news)) → (∀ p ∈ news, p.1 ≠ D ∧ ∀ q ∈ tps, p.1 ≠ q.1) → O tps → Q (.ref D) { s with heap := h', toks := tk' }) →
    wpAny (model PySem.Challenge.pw_np0049_01 w) (ktrTop dp un gd cn cs L a ccd cl outer) (call (.ref f) vs) Q E s
theorem TellM.use {w : World} {f : Addr} {vs : List Value} {news : Led} {d u : Nat} {O : List (Addr × Value × Value) → Prop} (C : TellM w f vs news d u O)
  {mean : ExcName → Option Value} {mg mb : Str → Option Value} {dp un : Nat} {gd : Option (List Code)} {cn : Str} {cs : Scope} {a : Addr} {ccd : Value} {cl : List (Str × Addr)} {outer : List Env} {A₀ : Around} {base h₀ : Heap} {L : Addr} {m : Str → Option Value} {s : Shared} {Q E : Value → Shared → Prop}
  (B : Below A₀ base outer h₀) (F : Fr h₀ L s.heap m) (X : (hd.heap_39 w.params).In h₀) (N : News h₀ L s.heap news) (T : Top hd.view_39 LS mean mg mb h₀) (hk : cs.kind = .function) (hd : dp + d < recursionLimit) (hu : un + u < cLine)
  (ret : ∀ D n tps h' tk', Fr h₀ L h' m → News h₀ L h' ((D, listOf (tps.map fun p => Value.ref p.1).toArray n) :: (tps.map (fun p => (p.1, ({ cls := .type "tuple", data := .seq #[p.2.1, p.2.2] } : Obj))) ++ news)) → (∀ p ∈ news, p.1 ≠ D ∧ ∀ q ∈ tps, p.1 ≠ q.1) → O tps → Q (.ref D) { s with heap := h', toks := tk' }) :
    wpAny (model PySem.Challenge.pw_np0049_01 w) (ktrTop dp un gd cn cs L a ccd cl outer) (call (.ref f) vs) Q E s :=
  C mean mg mb dp un gd cn cs a ccd cl outer A₀ base h₀ L m s Q E B F X N T hk hd hu ret
theorem bits_ok {a b c d e f : Addr} {t0 t1 t2 t3 t4 t5 u0 u1 u2 u3 u4 u5 : Tok} : bitsAre [(a, .str (Str.ofString "A") t0, .int (2 ^ Int.toNat 22) u0), (b, .str (Str.ofString "C") t1, .int (2 ^ Int.toNat 26) u1), (c, .str (Str.ofString "H") t2, .int (2 ^ Int.toNat 24) u2), (d, .str (Str.ofString "M") t3, .int (2 ^ Int.toNat 27) u3), (e, .str (Str.ofString "S") t4, .int (2 ^ Int.toNat 25) u4), (f, .str (Str.ofString "s") t5, .int (2 ^ Int.toNat 23) u5)] := by
  refine ⟨rfl, fun i T x y h => ?_⟩
  have e0 : Str.ofString "A" = Tx [65] := by decide +kernel
  have e1 : Str.ofString "C" = Tx [67] := by decide +kernel
  have e2 : Str.ofString "H" = Tx [72] := by decide +kernel
  have e3 : Str.ofString "M" = Tx [77] := by decide +kernel
  have e4 : Str.ofString "S" = Tx [83] := by decide +kernel
  have e5 : Str.ofString "s" = Tx [115] := by decide +kernel
  match i, h with
  | 0, h => cases h; exact ⟨_, _, _, rfl, by rw [e0], rfl⟩
  | 1, h => cases h; exact ⟨_, _, _, rfl, by rw [e1], rfl⟩
  | 2, h => cases h; exact ⟨_, _, _, rfl, by rw [e2], rfl⟩
  | 3, h => cases h; exact ⟨_, _, _, rfl, by rw [e3], rfl⟩
  | 4, h => cases h; exact ⟨_, _, _, rfl, by rw [e4], rfl⟩
  | 5, h => cases h; exact ⟨_, _, _, rfl, by rw [e5], rfl⟩
  | n + 6, h => simp at h
theorem bits_ret {h₀ h' : Heap} {L : Addr} {m : Str → Option Value} {news : Led} {s : Shared} {Q : Value → Shared → Prop} {l a b c d e f : Addr} {n tk' : Nat} {t0 t1 t2 t3 t4 t5 u0 u1 u2 u3 u4 u5 : Tok}
    (hret : ∀ D n tps h' tk', Fr h₀ L h' m → News h₀ L h' ((D, listOf (tps.map fun p => Value.ref p.1).toArray n) :: (tps.map (fun p => (p.1, ({ cls := .type "tuple", data := .seq #[p.2.1, p.2.2] } : Obj))) ++ news)) → (∀ p ∈ news, p.1 ≠ D ∧ ∀ q ∈ tps, p.1 ≠ q.1) → bitsAre tps → Q (.ref D) { s with heap := h', toks := tk' })
    (F : Fr h₀ L h' m) (N : News h₀ L h' ((l, listOf #[.ref a, .ref b, .ref c, .ref d, .ref e, .ref f] n) :: (f, ({ cls := .type "tuple", data := .seq #[.str (Str.ofString "s") t5, .int (2 ^ Int.toNat 23) u5] } : Obj)) :: (e, ({ cls := .type "tuple", data := .seq #[.str (Str.ofString "S") t4, .int (2 ^ Int.toNat 25) u4] } : Obj)) :: (d, ({ cls := .type "tuple", data := .seq #[.str (Str.ofString "M") t3, .int (2 ^ Int.toNat 27) u3] } : Obj)) :: (c, ({ cls := .type "tuple", data := .seq #[.str (Str.ofString "H") t2, .int (2 ^ Int.toNat 24) u2] } : Obj)) :: (b, ({ cls := .type "tuple", data := .seq #[.str (Str.ofString "C") t1, .int (2 ^ Int.toNat 26) u1] } : Obj)) :: (a, ({ cls := .type "tuple", data := .seq #[.str (Str.ofString "A") t0, .int (2 ^ Int.toNat 22) u0] } : Obj)) :: news)) (l1 : ∀ p ∈ news, p.1 < a) (l2 : a < b ∧ AllLt b news) (l3 : b < c ∧ a < c ∧ AllLt c news) (l4 : c < d ∧ b < d ∧ a < d ∧ AllLt d news)
    (l5 : d < e ∧ c < e ∧ b < e ∧ a < e ∧ AllLt e news) (l6 : e < f ∧ d < f ∧ c < f ∧ b < f ∧ a < f ∧ AllLt f news) (l7 : f < l ∧ e < l ∧ d < l ∧ c < l ∧ b < l ∧ a < l ∧ AllLt l news) : Q (.ref l) { s with heap := h', toks := tk' } := by
  refine hret l n [(a, .str (Str.ofString "A") t0, .int (2 ^ Int.toNat 22) u0), (b, .str (Str.ofString "C") t1, .int (2 ^ Int.toNat 26) u1), (c, .str (Str.ofString "H") t2, .int (2 ^ Int.toNat 24) u2), (d, .str (Str.ofString "M") t3, .int (2 ^ Int.toNat 27) u3), (e, .str (Str.ofString "S") t4, .int (2 ^ Int.toNat 25) u4), (f, .str (Str.ofString "s") t5, .int (2 ^ Int.toNat 23) u5)] h' tk' F (fun p hp => N p ?_) (fun p hp => ⟨Nat.ne_of_lt (ktn_ltOf l7.2.2.2.2.2.2 p hp), fun q hq => ?_⟩) bits_ok
  · simp only [List.map_cons, List.map_nil, List.cons_append, List.nil_append, List.mem_cons] at hp ⊢
    rcases hp with h | h | h | h | h | h | h | h
    · exact .inl h
    · exact .inr (.inr (.inr (.inr (.inr (.inr (.inl h))))))
    · exact .inr (.inr (.inr (.inr (.inr (.inl h)))))
    · exact .inr (.inr (.inr (.inr (.inl h))))
    · exact .inr (.inr (.inr (.inl h)))
    · exact .inr (.inr (.inl h))
    · exact .inr (.inl h)
    · exact .inr (.inr (.inr (.inr (.inr (.inr (.inr h))))))
  · simp only [List.mem_cons, List.not_mem_nil, or_false] at hq
    rcases hq with rfl | rfl | rfl | rfl | rfl | rfl
    · exact Nat.ne_of_lt (l1 p hp)
    · exact Nat.ne_of_lt (ktn_ltOf l2.2 p hp)
    · exact Nat.ne_of_lt (ktn_ltOf l3.2.2 p hp)
    · exact Nat.ne_of_lt (ktn_ltOf l4.2.2.2 p hp)
    · exact Nat.ne_of_lt (ktn_ltOf l5.2.2.2.2 p hp)
    · exact Nat.ne_of_lt (ktn_ltOf l6.2.2.2.2.2 p hp)
theorem tell_law_bits {w : World} {news : Led} : TellM w 338 [] news 2 16 bitsAre := by
  k_with_none
  k_with "execs cons" => (k_here; with_reducible refine exs_cons fun _ => ?_; k_fold)
  have hfill : (PySem.Challenge.rw_np0049_01, hd.heap_39) = (PySem.Challenge.rw_np0049_01, hd.heap_39) := by k_fill; rfl
  clear hfill
  intro mean mg mb dp un gd cn cs a ccd cl outer A₀ base h₀ L m s Q E B F X N T hk hd hu hret
  refine wpAny_call ?_
  k_dflt (refine' code_defN ?k1 ?k2 ?k3 ?k4 ?k5 ?kA ?kF ?kK ?k6 ?k7 ?k8 ?k9 ?kB ?hl ?_ ?c2 ?c3 ?c4 ?c5; (case kA => exact rfl); (case kF => exact rfl); (case kK => assumption); (case k1 => k_asm); (case k2 => k_asm); (case k3 => k_asm); (case k4 => k_asm); (case k5 => k_asm); (case k6 => k_is); (case k7 => k_is); (case k8 => first | exact room0 hd | ktr_room); (case k9 => exact BindsTo.of_eq rfl); (case c5 => decide); (case kB => exact locs rfl); (case hl => first | exact (rfl : _ = [(_, _)]) | exact (rfl : _ = [(_, _), (_, _)]) | exact (rfl : _ = [(_, _), (_, _), (_, _)]) | exact rfl); (case c2 => exact rfl); (case c3 => exact rfl); (case c4 => exact rfl); k_whole; intro g' L' h' tkE FG' F' N' B' X' T'; (try dsimp only); (try k_lift B'); (try k_fold))
  (change let ev : Env := _; wpAny _ (Around.deeper _ ev) (execs _ ev) _ _ _)
  intro ev
  (change let Ax : Around := _; wpAny _ Ax (execs _ ev) _ _ _)
  intro Ax
  k_steps
  exact bits_ret hret (by k_asm) (by k_asm) (by assumption) (by assumption) (by assumption) (by assumption) (by assumption) (by assumption) (by assumption)
end
-- KbY1
section
open PySem.Spec PySem.Calls PyProof.Rows.LCg
def LawPairO (o : Obj) : Prop := ∃ key text t u ls, o = { cls := .type "tuple", data := .seq #[kv key t, .str (Tx text) u] } ∧ ls ∈ subsOf modL ∧ (key, text) ∈ pairsOf ls
def TellK (w : World) (f : Addr) (vs : List Value) (D S : Addr) (k c : Int) (od : Obj) (news : Led) (d u : Nat) (O : Obj → Prop) : Prop :=
  ∀ (mean : ExcName → Option Value) (mg mb : Str → Option Value) (dp un : Nat) (gd : Option (List Code)) (cn : Str) (cs : Scope) (a : Addr) (ccd : Value) (cl : List (Str × Addr)) (outer : List Env) (A₀ : Around) (base h₀ : Heap) (L : Addr) (m : Str → Option Value) (s : Shared) (Q E : Value → Shared → Prop),
    Below A₀ base outer h₀ → Fr h₀ L s.heap m → (hd.heap_39 w.params).In h₀ → News h₀ L s.heap ((D, od) :: news) → Top hd.view_39 LS mean mg mb h₀ → cs.kind = .function → dp + d < recursionLimit → un + u < cLine →
    (∀ T o k' t' n' h' tk', Fr h₀ L h' m → News h₀ L h' ((T, o) :: (D, deckO S k' t' n') :: news) → (∀ p ∈ news, p.1 ≠ T) → D ≠ T → k ≤ k' → k' ≤ k + c → O o → Q (.ref T) { s with heap := h', toks := tk' }) →
    wpAny (model PySem.Challenge.pw_np0049_01 w) (ktrTop dp un gd cn cs L a ccd cl outer) (call (.ref f) vs) Q E s
theorem cells_off {D L' : Addr} {o1 o2 : Obj} {news : Led} (h : @LT.lt Nat _ D L' ∧ AllLt L' news) (hoff : ∀ p ∈ news, p.1 ≠ D) : ∀ p ∈ (L' + 1 + 1, o1) :: (L' + 1, o2) :: news, p.1 ≠ D := fun p hp => by
  rcases List.mem_cons.mp hp with rfl | hp
  · intro e
    have e' : @Eq Nat (L' + 1 + 1) D := e
    have := h.1
    omega
  · rcases List.mem_cons.mp hp with rfl | hp
    · intro e
      have e' : @Eq Nat (L' + 1) D := e
      have := h.1
      omega
    · exact hoff p hp
noncomputable abbrev tupsOf (tps : List (Addr × Value × Value)) : Led := tps.map fun p => (p.1, ({ cls := .type "tuple", data := .seq #[p.2.1, p.2.2] } : Obj))
noncomputable abbrev refsOf (tps : List (Addr × Value × Value)) (n : Nat) : Obj := listOf (tps.map fun p => Value.ref p.1).toArray n
def drawJ (D S : Addr) (rest : Led) (k : Int) (i : Nat) (ys : List Value) (nx : Led) : Prop :=
  ∃ k' t' n', nx = (D, deckO S k' t' n') :: rest ∧ k ≤ k' ∧ k' ≤ k + i ∧ ∃ ls : List Nat, ls.Sublist (modL.take i) ∧ StrsAre ys ((ls.map fun c => [c]).map Tx)
theorem drawJ_adr {D S : Addr} {rest : Led} {k k0 : Int} {t : Tok} {n : Nat} : ∀ i ys nx, drawJ D S rest k i ys nx → nx.map (·.1) = ((D, deckO S k0 t n) :: rest).map (·.1) := by
  rintro i ys nx ⟨k', t', n', rfl, _⟩; rfl
theorem perm3 {h₀ h : Heap} {L : Addr} {a b c : Addr × Obj} {l : Led} (N : News h₀ L h (a :: b :: c :: l)) : News h₀ L h (c :: a :: b :: l) := fun p hp => N p (by
  simp only [List.mem_cons] at hp ⊢
  rcases hp with h | h | h | h
  · exact .inr (.inr (.inl h))
  · exact .inl h
  · exact .inr (.inl h)
  · exact .inr (.inr (.inr h)))
theorem comp_off {D L' A I C Dc : Addr} {o1 o2 oC oA od oacc : Obj} {tps : List (Addr × Value × Value)} {news own rest : Led} (h : @LT.lt Nat _ D L' ∧ AllLt L' news) (hoff : ∀ p ∈ news, p.1 ≠ D) (hdA : D ≠ A) (hdT : ∀ q ∈ tps, D ≠ q.1)
    (hne : ∀ p ∈ (D, od) :: rest, p.1 ≠ I ∧ p.1 ≠ C ∧ p.1 ≠ Dc) (hown : ∀ p ∈ own, p.1 = I ∨ p.1 = A ∨ ∃ q ∈ tps, p.1 = q.1) :
    ∀ p ∈ (L' + 1 + 1, o1) :: (L' + 1, o2) :: (C, oC) :: (Dc, oacc) :: (A, oA) :: (tupsOf tps ++ news ++ own), p.1 ≠ D := fun p hp => by
  have hD := hne (D, od) (.head _)
  simp only [List.mem_cons, List.mem_append] at hp
  rcases hp with h1 | h1 | h1 | h1 | h1 | (h1 | h1) | h1
  · exact cells_off (o1 := o1) (o2 := o2) h hoff p (by rw [h1]; exact .head _)
  · exact cells_off (o1 := o1) (o2 := o2) h hoff p (by rw [h1]; exact .tail _ (.head _))
  · rw [h1]; exact fun e => hD.2.1 e.symm
  · rw [h1]; exact fun e => hD.2.2 e.symm
  · rw [h1]; exact fun e => hdA e.symm
  · obtain ⟨q, hq, rfl⟩ := List.mem_map.mp h1
    exact fun e => hdT q hq e.symm
  · exact hoff p h1
  · rcases hown p h1 with h2 | h2 | ⟨q, hq, h2⟩
    · exact fun e => hD.1 (by rw [← e]; exact h2)
    · exact fun e => hdA (by rw [← e]; exact h2)
    · exact fun e => hdT q hq (by rw [← e]; exact h2)
theorem drawJ_yes {D S : Addr} {rest : Led} {k k' : Int} {t' : Tok} {n' i : Nat} {ys : List Value} {ls : List Nat} {c : Nat} {tc : Tok} (h1 : k ≤ k') (h2 : k' ≤ k + (i + 1 : Nat)) (hc : modL[i]? = some c) (hls : ls.Sublist (modL.take i)) (hys : StrsAre ys ((ls.map fun c => [c]).map Tx)) : drawJ D S rest k (i + 1) (ys ++ [.str (Tx [c]) tc]) ((D, deckO S k' t' n') :: rest) :=
  ⟨k', t', n', rfl, h1, h2, ls ++ [c], by rw [take_step hc]; exact hls.append (List.Sublist.refl _), by rw [List.map_append, List.map_append]; exact hys.append' (.cons _ _ .nil)⟩
theorem drawJ_no {D S : Addr} {rest : Led} {k k' : Int} {t' : Tok} {n' i : Nat} {ys : List Value} {ls : List Nat} (h1 : k ≤ k') (h2 : k' ≤ k + (i + 1 : Nat)) (hls : ls.Sublist (modL.take i)) (hys : StrsAre ys ((ls.map fun c => [c]).map Tx)) : drawJ D S rest k (i + 1) ys ((D, deckO S k' t' n') :: rest) :=
  ⟨k', t', n', rfl, h1, h2, ls, hls.trans (by rw [List.take_add_one]; exact List.sublist_append_left _ _), hys⟩
theorem sub_mem_of {l ls : List Nat} (h : ls.Sublist l) : ls ∈ subsOf l := by
  induction h with
  | slnil => simp [subsOf]
  | cons a _ ih => simp only [subsOf, List.mem_append]; exact .inl ih
  | cons_cons a _ ih => simp only [subsOf, List.mem_append, List.mem_map]; exact .inr ⟨_, ih, rfl⟩
theorem sub_mem {ls : List Nat} {n : Nat} (h : ls.Sublist (modL.take n)) : ls ∈ subsOf modL := sub_mem_of (h.trans (List.take_sublist _ _))
theorem ones_small (ls : List Nat) (h : ls.length ≤ 1000) : ((((ls.map fun c => [c]).map Tx).map (·.length)).sum + ((ls.map fun c => [c]).map Tx).length * (Str.ofString "").length ≤ 16777216) := by
  have e : (Str.ofString "").length = 0 := by decide +kernel
  rw [e, Nat.mul_zero, Nat.add_zero, sum_ones _ _ (fun a ha => by
    obtain ⟨l, hl, rfl⟩ := List.mem_map.mp ha
    obtain ⟨c, _, rfl⟩ := List.mem_map.mp hl
    rfl)]
  simp only [List.length_map]
  omega
theorem join_ones (ls : List Nat) : Txt.join (Str.ofString "") ((ls.map fun c => [c]).map Tx) = Tx ls := by
  rw [joinT0, ← List.flatMap_def, List.flatMap_singleton']
theorem sub_facts {ls : List Nat} (h : ls ∈ subsOf modL) : ls.length ≤ 6 ∧ modL.filter (fun c => ls.contains c) = ls := by
  have := List.all_eq_true.mp (by decide +kernel : (subsOf modL).all (fun ls => decide (ls.length ≤ 6) && (modL.filter (fun c => ls.contains c) == ls)) = true) ls h
  simpa using this
theorem lcell_off {D L' : Addr} {o2 od : Obj} {news : Led} (h : @LT.lt Nat _ D L' ∧ AllLt L' news) : ∀ p ∈ (L' + 1, o2) :: (D, od) :: news, p.1 ≠ L' + 1 + 1 := fun p hp => by
  rcases List.mem_cons.mp hp with rfl | hp
  · exact Nat.ne_of_lt (Nat.lt_succ_self (L' + 1))
  · rcases List.mem_cons.mp hp with rfl | hp
    · exact Nat.ne_of_lt (Nat.lt_trans h.1 (Nat.lt_trans (Nat.lt_succ_self L') (Nat.lt_succ_self (L' + 1))))
    · exact Nat.ne_of_lt (Nat.lt_trans (ktn_ltOf h.2 p hp) (Nat.lt_trans (Nat.lt_succ_self L') (Nat.lt_succ_self (L' + 1))))
theorem join_marks {l : List Nat} {n : Nat} (hn : n = l.length) : Txt.join (Str.ofString "") (((l.take n).map fun c => [c, 45]).map Tx) = Tx (rawMarks l) := joinM' hn
theorem bit_sum_step {ls : List Nat} {zs : List Value} {i c : Nat} {t : Tok} (b : Bool) (hb : ls.contains c = b) (hc : modL[i]? = some c) (h : IntsAre zs (((modL.take i).filter fun c => ls.contains c).map bitL)) :
    IntsAre (if b then zs ++ [.int (bitL c) t] else zs) (((modL.take (i + 1)).filter fun c => ls.contains c).map bitL) := by
  rw [List.take_add_one, hc]
  simp only [Option.toList, List.filter_append, List.filter_cons, List.filter_nil, hb]
  cases b with
  | true =>
    simp only [if_true, List.map_append, List.map_cons, List.map_nil]
    exact h.append (.cons _ _ .nil)
  | false => simpa using h
theorem bit_sum_end {ls : List Nat} (h : ls ∈ subsOf modL) : (((modL.take 6).filter fun c => ls.contains c).map bitL).sum = bitsSum ls := by
  rw [show modL.take 6 = modL from rfl, (sub_facts h).2]; rfl
theorem pickU {w : World} {D S A : Addr} {k : Int} {t0 : Tok} {n0 nA : Nat} {vA : List Value} {led : Led} {g : Obj → Led}
  {mean : ExcName → Option Value} {mg mb : Str → Option Value} {dp un : Nat} {gd : Option (List Code)} {cn : Str} {cs : Scope} {a : Addr} {ccd : Value} {cl : List (Str × Addr)} {outer : List Env} {A₀ : Around} {base h₀ : Heap} {L : Addr} {m : Str → Option Value} {s : Shared} {Q E : Value → Shared → Prop}
  (N : News h₀ L s.heap led) (U : UpdF D (deckO S k t0 n0) led g) (hk0 : 0 ≤ k) (hk1 : k ≤ 1000) (hS : ScriptAt S led) (hSD : S ≠ D) (hA : (A, listOf vA.toArray nA) ∈ led) (hAD : A ≠ D) (hne : 0 < vA.length) (hlen : vA.length ≤ 100)
  (B : Below A₀ base outer h₀) (F : Fr h₀ L s.heap m) (X : (hd.heap_39 w.params).In h₀) (T : Top hd.view_39 LS mean mg mb h₀) (hk : cs.kind = .function) (hd : dp + 4 < recursionLimit) (hu : un + 32 < cLine)
  (ret : ∀ r k' t' n' h' tk', Fr h₀ L h' m → News h₀ L h' (g (deckO S k' t' n')) → k ≤ k' → k' ≤ k + 1 → r ∈ vA → Q r { s with heap := h', toks := tk' }) :
    wpAny (model PySem.Challenge.pw_np0049_01 w) (ktrTop dp un gd cn cs L a ccd cl outer) (call (.ref 331) [.ref D, .ref A]) Q E s := by
  obtain ⟨pre, post, rfl, hg, h1, h2⟩ := U.split
  have sub : ∀ {o : Obj} {p : Addr × Obj}, p ∈ (D, o) :: (pre ++ post) → p ∈ pre ++ (D, o) :: post := fun {o p} hp => by
    simp only [List.mem_append, List.mem_cons] at hp ⊢
    rcases hp with h | h | h
    · exact .inr (.inl h)
    · exact .inl h
    · exact .inr (.inr h)
  have sub' : ∀ {o : Obj} {p : Addr × Obj}, p ∈ pre ++ (D, o) :: post → p ∈ (D, o) :: (pre ++ post) := fun {o p} hp => by
    simp only [List.mem_append, List.mem_cons] at hp ⊢
    rcases hp with h | h | h
    · exact .inr (.inl h)
    · exact .inl h
    · exact .inr (.inr h)
  obtain ⟨vS, nS, ns, q1, q2, q3⟩ := hS
  have q4 : (S, listOf vS.toArray nS) ∈ pre ++ post := by
    rcases List.mem_cons.mp (sub' q1) with e | e
    · exact absurd (congrArg Prod.fst e) hSD
    · exact e
  have q5 : (A, listOf vA.toArray nA) ∈ pre ++ post := by
    rcases List.mem_cons.mp (sub' hA) with e | e
    · exact absurd (congrArg Prod.fst e) hAD
    · exact e
  refine TellD.use (tell_pick (news := pre ++ post) hk0 hk1 ⟨vS, nS, ns, q4, q2, q3⟩ q5 hne hlen fun p hp => ?_) B F X (fun p hp => N p (sub hp)) T hk hd hu ?_
  · rcases List.mem_append.mp hp with h | h
    · exact h1 p h
    · exact h2 p h
  · rintro r k' t' n' h' tk' F' N' hk2 hk3 hr
    exact ret r k' t' n' h' tk' F' (hg _ ▸ fun p hp => N' p (sub' hp)) hk2 hk3 hr
theorem script_ne {S D : Addr} {news : Led} (h : ScriptAt S news) (hoff : ∀ p ∈ news, p.1 ≠ D) : S ≠ D := by
  obtain ⟨vS, nS, ns, h1, _⟩ := h; exact hoff _ h1
theorem c_in {ls : List Nat} {b : Bool} (e : (Builtin.Str.occurrences (Tx ls) (Str.ofString "C") 0 (Tx ls).length 1).isEmpty = b) : ls.contains 67 = !b := by
  have q := in_one (Tx ls) 67
  rw [show Tx [67] = Str.ofString "C" from by decide +kernel, e, lst_Tx] at q
  exact q.symm
theorem m_in {ls : List Nat} {b : Bool} (e : (Builtin.Str.occurrences (Tx ls) (Str.ofString "M") 0 (Tx ls).length 1).isEmpty = b) : ls.contains 77 = !b := by
  have q := in_one (Tx ls) 77
  rw [show Tx [77] = Str.ofString "M" from by decide +kernel, e, lst_Tx] at q
  exact q.symm
theorem o_in {ls : List Nat} {c : Nat} {b : Bool} (e : (Builtin.Str.occurrences (Tx ls) (Tx [c]) 0 (Tx ls).length 1).isEmpty = b) : ls.contains c = !b := by
  have q := in_one (Tx ls) c
  rw [e, lst_Tx] at q
  exact q.symm
theorem frs {P R : Prop} {news : Led} {D : Addr} (f : R → ∀ p ∈ news, p.1 ≠ D) (h : P ∧ R) : ∀ p ∈ news, p.1 ≠ D := f h.2
theorem news_cons {h₀ h : Heap} {L : Addr} {e : Addr × Obj} {l : Led} (a : News h₀ L h [e]) (b : News h₀ L h l) : News h₀ L h (e :: l) := fun p hp => by
  rcases List.mem_cons.mp hp with rfl | hp
  · exact a _ (.head _)
  · exact b p hp
theorem raw_len {ls : List Nat} (h : ls.length ≤ 6) : (Tx (rawMarks ls)).length ≤ 12 := by
  rw [T_len]
  have : (rawMarks ls).length = 2 * ls.length := by
    clear h
    unfold rawMarks
    induction ls with
    | nil => rfl
    | cons a r ih => rw [List.flatMap_cons, List.length_append, ih]; simp only [List.length_cons, List.length_nil]; omega
  omega
theorem law_name {r : Value} {u0 u1 u2 u3 u4 u5 u6 : Tok} (h : r ∈ [Value.str (Str.ofString "up") u0, Value.str (Str.ofString "f1") u1, Value.str (Str.ofString "return") u2, Value.str (Str.ofString "-") u3, Value.str (Str.ofString "S-") u4, Value.str (Str.ofString "x") u5, Value.str (Str.ofString "mouse-1") u6]) : ∃ n t, r = .str (Tx n) t ∧ n ∈ lawNames ∧ (Tx n).length ≤ 10 := by
  simp only [List.mem_cons, List.not_mem_nil, or_false] at h
  rcases h with rfl | rfl | rfl | rfl | rfl | rfl | rfl
  · exact ⟨[117, 112], _, by rw [show Str.ofString "up" = Tx [117, 112] from by decide +kernel], by decide, by decide⟩
  · exact ⟨[102, 49], _, by rw [show Str.ofString "f1" = Tx [102, 49] from by decide +kernel], by decide, by decide⟩
  · exact ⟨[114, 101, 116, 117, 114, 110], _, by rw [show Str.ofString "return" = Tx [114, 101, 116, 117, 114, 110] from by decide +kernel], by decide, by decide⟩
  · exact ⟨[45], _, by rw [show Str.ofString "-" = Tx [45] from by decide +kernel], by decide, by decide⟩
  · exact ⟨[83, 45], _, by rw [show Str.ofString "S-" = Tx [83, 45] from by decide +kernel], by decide, by decide⟩
  · exact ⟨[120], _, by rw [show Str.ofString "x" = Tx [120] from by decide +kernel], by decide, by decide⟩
  · exact ⟨[109, 111, 117, 115, 101, 45, 49], _, by rw [show Str.ofString "mouse-1" = Tx [109, 111, 117, 115, 101, 45, 49] from by decide +kernel], by decide, by decide⟩
theorem law_pair4 {ls n : List Nat} {t u : Tok} (h : ls ∈ subsOf modL) (hn : n ∈ lawNames) : LawPairO { cls := .type "tuple", data := .seq #[.str (Tx (rawMarks ls) ++ Tx n) t, .str (Tx (rawMarks ls) ++ Str.ofString "<" ++ Tx n ++ Str.ofString ">") u] } := by
  refine ⟨.inr (rawMarks ls ++ n), rawMarks ls ++ ([60] ++ n ++ [62]), t, u, ls, ?_, h, List.mem_append_left _ (List.mem_map_of_mem (f := pair4 ls) hn)⟩
  rw [show Str.ofString "<" = Tx [60] from by decide +kernel, show Str.ofString ">" = Tx [62] from by decide +kernel, T_app, T_app, T_app, T_app]
  simp [kv]
theorem law_pair3 {ls : List Nat} {c : Int} {s : Str} {t u : Tok} (h : ls ∈ subsOf modL) (hn : (c, Lst s) ∈ lawSome) : LawPairO { cls := .type "tuple", data := .seq #[.int (c + bitsSum ls) t, .str (Tx (rawMarks ls) ++ s) u] } := by
  refine ⟨.inl (c + bitsSum ls), rawMarks ls ++ Lst s, t, u, ls, ?_, h, List.mem_append_right _ (List.mem_append_left _ (List.mem_map_of_mem (f := pair3 ls) hn))⟩
  rw [← T_app, T_lst]; rfl
theorem law_len {l : List (Int × List Nat)} {c : Int} {s : Str} (h : (c, Lst s) ∈ l) (hl : l.all (fun p => decide (p.2.length ≤ 10)) = true) : s.length ≤ 10 := by
  have := List.all_eq_true.mp hl _ h
  rw [lst_len]
  simpa using this
def JoinI (x : Int) (s : Shared) (v : Value) (s' : Shared) : Prop := ∃ u tk, v = .int x u ∧ s' = { s with toks := tk }
theorem JoinI.intro {x y : Int} {s : Shared} {u : Tok} {tk : Nat} (h : y = x) : JoinI x s (.int y u) { s with toks := tk } := ⟨u, tk, by rw [h], rfl⟩
theorem joinInt {M : Model} {A : Around} {t : Sem Value} {Q E : Value → Shared → Prop} {s : Shared} (x : Int) (h1 : wpAny M A t (JoinI x s) E s) (h2 : ∀ u tk, Q (.int x u) { s with toks := tk }) : wpAny M A t Q E s :=
  wpAny_mono h1 (by rintro v s' ⟨u, tk, rfl, rfl⟩; exact h2 u tk) fun _ _ e => e
theorem rep_noC {ls : List Nat} (h : ls ∈ subsOf modL) : Txt.replace (Tx (rawMarks ls)) (Str.ofString "C-") (Str.ofString "") = Tx (rawMarks (noC ls)) := by
  have := List.all_eq_true.mp (by decide +kernel : (subsOf modL).all (fun ls => Lst (Txt.replace (Tx (rawMarks ls)) (Str.ofString "C-") (Str.ofString "")) == rawMarks (noC ls)) = true) ls h
  exact eq_T (eq_of_beq this)
theorem noC_len {ls : List Nat} (h : ls.length ≤ 6) : (noC ls).length ≤ 6 := Nat.le_trans (List.length_filter_le _ _) h
theorem rep_len {ls : List Nat} (h : ls ∈ subsOf modL) (hl : ls.length ≤ 6) : (Txt.replace (Tx (rawMarks ls)) (Str.ofString "C-") (Str.ofString "")).length ≤ 12 := by
  rw [rep_noC h]; exact raw_len (noC_len hl)
theorem lessC_in {ls : List Nat} (h : ls.contains 67 = true) : bitsSum ls - 2 ^ Int.toNat 26 = lessC ls := by
  unfold lessC; rw [if_pos h]; rfl
theorem lessC_out {ls : List Nat} (h : ls.contains 67 = false) : bitsSum ls = lessC ls := by
  unfold lessC; rw [if_neg (by rw [h]; simp)]
theorem withCs_len (ls : List Nat) : (withCs ls).length ≤ 6 := Nat.le_trans (List.length_filter_le _ _) (by decide)
theorem mark_step {ls : List Nat} {zs : List Value} {i c : Nat} {t : Tok} (b : Bool) (hb : (ls.contains c || c == 67) = b) (hc : modL[i]? = some c) (h : StrsAre zs ((((modL.take i).filter fun c => ls.contains c || c == 67).map fun c => [c, 45]).map Tx)) :
    StrsAre (if b then zs ++ [.str (Tx [c] ++ Str.ofString "-") t] else zs) ((((modL.take (i + 1)).filter fun c => ls.contains c || c == 67).map fun c => [c, 45]).map Tx) := by
  rw [List.take_add_one, hc]
  simp only [Option.toList, List.filter_append, List.filter_cons, List.filter_nil, hb]
  cases b with
  | true =>
    simp only [if_true, List.map_append, List.map_cons, List.map_nil]
    rw [show Tx [c, 45] = Tx [c] ++ Str.ofString "-" from lst_inj (by rw [lst_app, dash_lst]; rfl)]
    exact h.append' (.cons _ _ .nil)
  | false => simpa using h
theorem mark_end (ls : List Nat) : Txt.join (Str.ofString "") ((((modL.take 6).filter fun c => ls.contains c || c == 67).map fun c => [c, 45]).map Tx) = Tx (rawMarks (withCs ls)) := by
  rw [joinT0, ← List.flatMap_def]; rfl
theorem law_pair2a {ls : List Nat} {c : Int} {l : List Nat} {t u : Tok} (h : ls ∈ subsOf modL) (hn : (c, l) ∈ lawCtrl) (h9 : c = 9) (hm : ls.contains 77 = true) : LawPairO { cls := .type "tuple", data := .seq #[.int (c + lessC ls) t, .str (Tx (rawMarks (withCs ls)) ++ Str.ofString "i") u] } := by
  refine ⟨.inl (c + lessC ls), rawMarks (withCs ls) ++ [105], t, u, ls, ?_, h, ?_⟩
  · rw [show Str.ofString "i" = Tx [105] from by decide +kernel, T_app]; rfl
  · have e : pair2 ls (c, l) = (.inl (c + lessC ls), rawMarks (withCs ls) ++ [105]) := by unfold pair2; rw [if_pos ⟨h9, hm⟩]
    rw [← e]
    exact List.mem_append_right _ (List.mem_append_right _ (List.mem_append_left _ (List.mem_map_of_mem (f := pair2 ls) hn)))
theorem law_pair2b {ls : List Nat} {c : Int} {s : Str} {t u : Tok} (h : ls ∈ subsOf modL) (hn : (c, Lst s) ∈ lawCtrl) (h9 : ¬ (c = 9 ∧ ls.contains 77 = true)) : LawPairO { cls := .type "tuple", data := .seq #[.int (c + lessC ls) t, .str (Txt.replace (Tx (rawMarks ls)) (Str.ofString "C-") (Str.ofString "") ++ s) u] } := by
  refine ⟨.inl (c + lessC ls), rawMarks (noC ls) ++ Lst s, t, u, ls, ?_, h, ?_⟩
  · rw [rep_noC h, ← T_app, T_lst]; rfl
  · have e : pair2 ls (c, Lst s) = (.inl (c + lessC ls), rawMarks (noC ls) ++ Lst s) := by unfold pair2; rw [if_neg h9]
    rw [← e]
    exact List.mem_append_right _ (List.mem_append_right _ (List.mem_append_left _ (List.mem_map_of_mem (f := pair2 ls) hn)))
theorem law_pair1 {ls : List Nat} {c : Int} {s : Str} {t u : Tok} (h : ls ∈ subsOf modL) (hn : (c, Lst s) ∈ lawLetters) : LawPairO { cls := .type "tuple", data := .seq #[.int (c + lessC ls) t, .str (Tx (rawMarks (withCs ls)) ++ s) u] } := by
  refine ⟨.inl (c + lessC ls), rawMarks (withCs ls) ++ Lst s, t, u, ls, ?_, h, List.mem_append_right _ (List.mem_append_right _ (List.mem_append_right _ (List.mem_append_left _ (List.mem_map_of_mem (f := pair1 ls) hn))))⟩
  rw [← T_app, T_lst]; rfl
theorem law_pair0a {ls : List Nat} {c : Nat} {t u : Tok} (h : ls ∈ subsOf modL) (hn : c ∈ lawSigns) (hC : ls.contains 67 = true) (hc : [97, 122, 65, 64, 94].contains c = true) : LawPairO { cls := .type "tuple", data := .seq #[.int ((c : Int) + (bitsSum ls - 2 ^ Int.toNat 26)) t, .str (Txt.replace (Tx (rawMarks ls)) (Str.ofString "C-") (Str.ofString "") ++ ⟨#[c]⟩) u] } := by
  refine ⟨.inl ((c : Int) + (bitsSum ls - 67108864)), rawMarks (noC ls) ++ [c], t, u, ls, ?_, h, ?_⟩
  · rw [rep_noC h, show (⟨#[c]⟩ : Str) = Tx [c] from rfl, T_app]; rfl
  · have e : pair0 ls c = (.inl ((c : Int) + (bitsSum ls - 67108864)), rawMarks (noC ls) ++ [c]) := by unfold pair0; rw [if_pos ⟨hC, hc⟩]
    rw [← e]
    exact List.mem_append_right _ (List.mem_append_right _ (List.mem_append_right _ (List.mem_append_right _ (List.mem_map_of_mem (f := pair0 ls) hn))))
theorem law_pair0b {ls : List Nat} {c : Nat} {t u : Tok} (h : ls ∈ subsOf modL) (hn : c ∈ lawSigns) (hC : ¬ (ls.contains 67 = true ∧ [97, 122, 65, 64, 94].contains c = true)) : LawPairO { cls := .type "tuple", data := .seq #[.int ((c : Int) + bitsSum ls) t, .str (Tx (rawMarks ls) ++ ⟨#[c]⟩) u] } := by
  refine ⟨.inl ((c : Int) + bitsSum ls), rawMarks ls ++ [c], t, u, ls, ?_, h, ?_⟩
  · rw [show (⟨#[c]⟩ : Str) = Tx [c] from rfl, T_app]; rfl
  · have e : pair0 ls c = (.inl ((c : Int) + bitsSum ls), rawMarks ls ++ [c]) := by unfold pair0; rw [if_neg hC]
    rw [← e]
    exact List.mem_append_right _ (List.mem_append_right _ (List.mem_append_right _ (List.mem_append_right _ (List.mem_map_of_mem (f := pair0 ls) hn))))
end
section
local macro_rules | `(tactic| walk_at "pyIter ref") => `(tactic| (k_here; with_reducible refine held_ ?_))
local macro_rules | `(tactic| walk_at "pyIter str") => `(tactic| (k_here; with_reducible refine held_ ?_))
local macro_rules | `(tactic| walk_at "exec For Tuple Name cons nil") => `(tactic| (k_here; (rename Fr _ _ _ _ => lF'); (with_unfolding_all refine' For_turns lF' ?_; k_whole)))
local macro_rules | `(tactic| walk_at "exec For Tuple Call cons nil") => `(tactic| (k_here; (rename Fr _ _ _ _ => lF'); (with_unfolding_all refine' For_turns lF' ?_; k_whole)))
local macro_rules | `(tactic| walk_at "exec For Name Name cons nil") => `(tactic| (k_here; (rename Fr _ _ _ _ => lF'); (with_unfolding_all refine' For_turns lF' ?_; k_whole)))
local macro_rules | `(tactic| walk_at "exec For Name Call cons nil") => `(tactic| (k_here; (rename Fr _ _ _ _ => lF'); (with_unfolding_all refine' For_turns lF' ?_; k_whole)))
local macro_rules | `(tactic| walk_at $s:str) => `(tactic| k_extra $s)
-- KbG
section
noncomputable def namedV : List Value := [.ref 135, .ref 136, .ref 137, .ref 138, .ref 139, .ref 140, .ref 141]
noncomputable def namedL : List (Int × List Nat) := [(0, [78, 85, 76]), (9, [84, 65, 66]), (10, [76, 70, 68]), (13, [82, 69, 84]), (27, [69, 83, 67]), (32, [83, 80, 67]), (127, [68, 69, 76])]
theorem named_pair {w : World} {h : Heap} (X : (hd.heap_39 w.params).In h) {a : Addr} {c : Int} {s : Str} {l : List Nat} {t u : Tok} {d : Option Addr} {n : Nat} {sl : Array (Option Value)}
    (e : (hd.heap_39 w.params).lookup a = some ⟨.type "tuple", d, .seq #[.int c t, .str s u] n, sl⟩) (hl : Lst s = l) : ∃ s t u, IsTup h a #[.int c t, .str s u] ∧ Lst s = l := ⟨s, t, u, tup_K X e, hl⟩
theorem named_at {w : World} {h : Heap} (X : (hd.heap_39 w.params).In h) (i : Nat) (v : Value) (hv : namedV[i]? = some v) : ∃ T c l, v = .ref T ∧ namedL[i]? = some (c, l) ∧ ∃ s t u, IsTup h T #[.int c t, .str s u] ∧ Lst s = l := by
  have hfill : (PySem.Challenge.rw_np0049_01, hd.heap_39) = (PySem.Challenge.rw_np0049_01, hd.heap_39) := by k_fill; rfl
  clear hfill
  match i, hv with
  | 0, hv => cases hv; exact ⟨135, _, _, rfl, rfl, named_pair X (by k_is) (by decide +kernel)⟩
  | 1, hv => cases hv; exact ⟨136, _, _, rfl, rfl, named_pair X (by k_is) (by decide +kernel)⟩
  | 2, hv => cases hv; exact ⟨137, _, _, rfl, rfl, named_pair X (by k_is) (by decide +kernel)⟩
  | 3, hv => cases hv; exact ⟨138, _, _, rfl, rfl, named_pair X (by k_is) (by decide +kernel)⟩
  | 4, hv => cases hv; exact ⟨139, _, _, rfl, rfl, named_pair X (by k_is) (by decide +kernel)⟩
  | 5, hv => cases hv; exact ⟨140, _, _, rfl, rfl, named_pair X (by k_is) (by decide +kernel)⟩
  | 6, hv => cases hv; exact ⟨141, _, _, rfl, rfl, named_pair X (by k_is) (by decide +kernel)⟩
  | n + 7, hv => simp [namedV] at hv
theorem code_hit : ∀ (i : Nat) (c : Int) (l : List Nat), namedL[i]? = some (c, l) → codeNamed l = some c
  | 0, _, _, h => by cases h; rfl
  | 1, _, _, h => by cases h; rfl
  | 2, _, _, h => by cases h; rfl
  | 3, _, _, h => by cases h; rfl
  | 4, _, _, h => by cases h; rfl
  | 5, _, _, h => by cases h; rfl
  | 6, _, _, h => by cases h; rfl
  | n + 7, _, _, h => by simp [namedL] at h
theorem code_none {x : List Nat} (h : ∀ (k : Nat) (c : Int) (l : List Nat), k < 7 → namedL[k]? = some (c, l) → x ≠ l) : codeNamed x = none := by
  unfold codeNamed
  rw [if_neg (h 0 _ _ (by omega) rfl), if_neg (h 1 _ _ (by omega) rfl), if_neg (h 2 _ _ (by omega) rfl), if_neg (h 3 _ _ (by omega) rfl), if_neg (h 4 _ _ (by omega) rfl), if_neg (h 5 _ _ (by omega) rfl), if_neg (h 6 _ _ (by omega) rfl)]
theorem lst_eq_of {x y : Str} (h : (x == y) = true) : Lst x = Lst y := by rw [eq_of_beq h]
theorem lst_ne_of {x y : Str} (h : (x == y) = false) : Lst y ≠ Lst x := fun e => by
  rw [lst_inj e] at h; simp at h
section

theorem tell_code_named {w : World} {x : Str} {t : Tok} {news : Led} :
   TellV w 150 [.str x t] news 3 24 (fun t => match codeNamed (Lst x) with | none => .none | some c => .int c t) := by
  k_with_none
  k_with "execs cons" => (k_here; with_reducible refine exs_cons fun _ => ?_; k_fold)
  have hfill : (PySem.Challenge.rw_np0049_01, hd.heap_39) = (PySem.Challenge.rw_np0049_01, hd.heap_39) := by k_fill; rfl
  clear hfill
  intro mean mg mb dp un gd cn cs a ccd cl outer A₀ base h₀ L m s Q E B F X N T hk hd hu hret
  refine wpAny_call ?_
  k_dflt (refine' code_defN ?k1 ?k2 ?k3 ?k4 ?k5 ?kA ?kF ?kK ?k6 ?k7 ?k8 ?k9 ?kB ?hl ?_ ?c2 ?c3 ?c4 ?c5; (case kA => exact rfl); (case kF => exact rfl); (case kK => assumption); (case k1 => k_asm); (case k2 => k_asm); (case k3 => k_asm); (case k4 => k_asm); (case k5 => k_asm); (case k6 => k_is); (case k7 => k_is); (case k8 => first | exact room0 hd | ktr_room); (case k9 => exact BindsTo.of_eq rfl); (case c5 => decide); (case kB => exact locs rfl); (case hl => first | exact (rfl : _ = [(_, _)]) | exact (rfl : _ = [(_, _), (_, _)]) | exact (rfl : _ = [(_, _), (_, _), (_, _)]) | exact rfl); (case c2 => exact rfl); (case c3 => exact rfl); (case c4 => exact rfl); k_whole; intro g' L' h' tkE FG' F' N' B' X' T'; (try dsimp only); (try k_lift B'); (try k_fold))
  (change let ev : Env := _; wpAny _ (Around.deeper _ ev) (execs _ ev) _ _ _)
  intro ev
  (change let Ax : Around := _; wpAny _ Ax (execs _ ev) _ _ _)
  intro Ax
  k_steps
  refine heldI (iter_tupK (vs := namedV) (fun i m nx => nx = news ∧ m (Str.ofString "name") = some (.str x t) ∧ ∀ (k : Nat) (c : Int) (l : List Nat), k < i → namedL[k]? = some (c, l) → Lst x ≠ l) (by rfl) (tup_K (by k_in) (by k_is)) (by k_asm) (by k_asm) ⟨rfl, rfl, by intro k c l hk; exact absurd hk (Nat.not_lt_zero _)⟩ ?_ ?_)
  · rintro i v m₁ nx h tk own hv hadr hoff ⟨rfl, hm, hno⟩ F₁ N₁
    obtain ⟨T, c, l, rfl, hl, s', t', u', hT, hs⟩ := named_at (h := h) (by k_in) i v hv
    refine assign_pair (by rfl) (fr_set hm F₁) N₁ hT (by rfl) (by rfl) (by rfl) fun h' tk' F₂ N₂ => ?_
    k_steps
    · have q : (s' == x) = true := by assumption
      have e : codeNamed (Lst x) = some c := by rw [← lst_eq_of q, hs]; exact code_hit i c l hl
      rw [e] at hret
      exact hret _ _ _ (by k_asm) (cb_drop (by k_asm) (by kcj_all))
    · have q : (s' == x) = false := by assumption
      refine InvEndN.intro F₂ N₂ ⟨rfl, rfl, fun k c' l' hk hl' => ?_⟩ rfl (by intro p hp; exact List.mem_append_left _ hp) (by intro p hp; exact List.mem_append_right _ hp)
      rcases Nat.lt_succ_iff_lt_or_eq.mp hk with h1 | h1
      · exact hno k c' l' h1 hl'
      · subst h1
        rw [hl] at hl'
        cases hl'
        rw [← hs]
        exact lst_ne_of q
  · rintro m₁ nx h tk ⟨rfl, hm, hno⟩ F₁ N₁
    k_steps
    rw [code_none hno] at hret
    exact hret 0 _ _ (by k_asm) (cb_drop (by k_asm) (by kcj_all))
end
end
-- KbH
theorem zz_KbH {prog : Program} {w : World} {A : Around} {env : Env} {E : Value → Shared → Prop} {s : Shared} {Q : Flow → Shared → Prop} (h : Q .next s) : wpAny (model prog w) A (execs [] env) Q E s := by
  k_with_none
  walk1
  exact h
section
theorem tell_code_named_none {w : World} {x : Str} {t : Tok} {news : Led} (h : codeNamed (Lst x) = none) : TellV w 150 [.str x t] news 3 24 (fun _ => .none) := by
  have := tell_code_named (w := w) (x := x) (t := t) (news := news)
  rw [h] at this; exact this
theorem tell_code_named_some {w : World} {x : Str} {t : Tok} {news : Led} {c : Int} (h : codeNamed (Lst x) = some c) : TellV w 150 [.str x t] news 3 24 (fun t => .int c t) := by
  have := tell_code_named (w := w) (x := x) (t := t) (news := news)
  rw [h] at this; exact this
theorem tell_is_modifier_letter_raw {w : World} {x : Str} {t : Tok} {news : Led} (h : 1 ≤ x.length ∧ x.length ≤ 1) :
   TellV w 205 [.str x t] news 1 8 (fun _ => .bool (!(Builtin.Str.occurrences (Str.ofString "ACHMSs") x 0 (Str.ofString "ACHMSs").length 1).isEmpty)) := by
  have e2 : (x != Str.ofString "") = true := by
    rw [bne_lst, nil_lst]
    have := h.1
    rw [lst_len] at this
    cases q : Lst x with
    | nil => rw [q] at this; simp at this
    | cons _ _ => rfl
  k_with_none
  k_with "execs cons" => (k_here; with_reducible refine exs_cons fun _ => ?_; k_fold)
  have hfill : (PySem.Challenge.rw_np0049_01, hd.heap_39) = (PySem.Challenge.rw_np0049_01, hd.heap_39) := by k_fill; rfl
  clear hfill
  intro mean mg mb dp un gd cn cs a ccd cl outer A₀ base h₀ L m s Q E B F X N T hk hd hu hret
  refine wpAny_call ?_
  k_dflt (refine' code_defN ?k1 ?k2 ?k3 ?k4 ?k5 ?kA ?kF ?kK ?k6 ?k7 ?k8 ?k9 ?kB ?hl ?_ ?c2 ?c3 ?c4 ?c5; (case kA => exact rfl); (case kF => exact rfl); (case kK => assumption); (case k1 => k_asm); (case k2 => k_asm); (case k3 => k_asm); (case k4 => k_asm); (case k5 => k_asm); (case k6 => k_is); (case k7 => k_is); (case k8 => first | exact room0 hd | ktr_room); (case k9 => exact BindsTo.of_eq rfl); (case c5 => decide); (case kB => exact locs rfl); (case hl => first | exact (rfl : _ = [(_, _)]) | exact (rfl : _ = [(_, _), (_, _)]) | exact (rfl : _ = [(_, _), (_, _), (_, _)]) | exact rfl); (case c2 => exact rfl); (case c3 => exact rfl); (case c4 => exact rfl); k_whole; intro g' L' h' tkE FG' F' N' B' X' T'; (try dsimp only); (try k_lift B'); (try k_fold))
  (change let ev : Env := _; wpAny _ (Around.deeper _ ev) (execs _ ev) _ _ _)
  intro ev
  (change let Ax : Around := _; wpAny _ Ax (execs _ ev) _ _ _)
  intro Ax
  k_steps
  exact cb_retB hret rfl (by k_asm) (by k_asm)
theorem split_turn' {x l n : Str} (h1 : 2 * l.length + n.length = x.length) (h2 : splitN (Lst x) = (Lst l ++ (splitN (Lst n)).1, (splitN (Lst n)).2)) (h3 : (2 : Int) < (n.length : Int))
    (h4 : (Txt.item n 1 == Str.ofString "-") = true) (h5 : (!(Builtin.Str.occurrences (Str.ofString "ACHMSs") (Txt.item n 0) 0 (Str.ofString "ACHMSs").length 1).isEmpty) = true) :
    2 * (l ++ Txt.item n 0).length + (Txt.slice n (some 2) none).length = x.length ∧
      splitN (Lst x) = (Lst (l ++ Txt.item n 0) ++ (splitN (Lst (Txt.slice n (some 2) none))).1, (splitN (Lst (Txt.slice n (some 2) none))).2) :=
  split_turn h1 h2 h3 h4 (by simpa using h5)
theorem split_end3' {x l n : Str} (h2 : splitN (Lst x) = (Lst l ++ (splitN (Lst n)).1, (splitN (Lst n)).2)) (h5 : (!(Builtin.Str.occurrences (Str.ofString "ACHMSs") (Txt.item n 0) 0 (Str.ofString "ACHMSs").length 1).isEmpty) = false) : splitN (Lst x) = (Lst l, Lst n) :=
  split_end3 h2 (by simpa using h5)
theorem kc_ae5fb078154 : True := by
  k_with_none
  k_with "call ref cons" => (k_here; first
    | ((with_reducible show wpAny _ _ (call (Value.ref 205) _) _ _ _); k_dflt (refine' TellV.use (tell_is_modifier_letter_raw (by assumption)) ?k1 ?k2 ?k3 ?k4 ?k5 ?kK ?kd ?ku ?_; (case k1 => k_asm); (case k2 => k_asm); (case k3 => k_asm); (case k4 => k_asm); (case k5 => k_asm); (case kK => first | exact rfl | assumption); (case kd => first | exact room1 hd rfl | ktr_room); (case ku => first | exact room1 hu rfl | ktr_units); intro t9 h9 tk9 F9 N9; (try dsimp only); (try k_fold)))
    | ((with_reducible show wpAny _ _ (call (Value.ref 150) _) _ _ _); k_dflt (refine' TellV.use (tell_code_named_none (by assumption)) ?k1 ?k2 ?k3 ?k4 ?k5 ?kK ?kd ?ku ?_; (case k1 => k_asm); (case k2 => k_asm); (case k3 => k_asm); (case k4 => k_asm); (case k5 => k_asm); (case kK => first | exact rfl | assumption); (case kd => first | exact room1 hd rfl | ktr_room); (case ku => first | exact room1 hu rfl | ktr_units); intro t9 h9 tk9 F9 N9; (try dsimp only); (try k_fold)))
    | ((with_reducible show wpAny _ _ (call (Value.ref 150) _) _ _ _); k_dflt (refine' TellV.use (tell_code_named_some (by assumption)) ?k1 ?k2 ?k3 ?k4 ?k5 ?kK ?kd ?ku ?_; (case k1 => k_asm); (case k2 => k_asm); (case k3 => k_asm); (case k4 => k_asm); (case k5 => k_asm); (case kK => first | exact rfl | assumption); (case kd => first | exact room1 hd rfl | ktr_room); (case ku => first | exact room1 hu rfl | ktr_units); intro t9 h9 tk9 F9 N9; (try dsimp only); (try k_fold)))
    | ((with_reducible show wpAny _ _ (call (Value.ref 259) _) _ _ _); k_dflt (refine' TellN.use2 (tell_plain_signs (by omega)) ?k1 ?k2 ?k3 ?k4 ?k5 ?kK ?kd ?ku ?_; (case k1 => k_asm); (case k2 => k_asm); (case k3 => k_asm); (case k4 => k_asm); (case k5 => k_asm); (case kK => first | exact rfl | assumption); (case kd => first | exact room1 hd rfl | ktr_room); (case ku => first | exact room1 hu rfl | ktr_units); intro D9 v9 n9 h9 tk9 F9 N9 l9 K9; (try dsimp only); (try k_fold)))
    | ((with_reducible show wpAny _ _ (call (Value.ref 120) _) _ _ _); k_dflt (refine' TellV.use (tell_make_event_int ) ?k1 ?k2 ?k3 ?k4 ?k5 ?kK ?kd ?ku ?_; (case k1 => k_asm); (case k2 => k_asm); (case k3 => k_asm); (case k4 => k_asm); (case k5 => k_asm); (case kK => first | exact rfl | assumption); (case kd => first | exact room1 hd rfl | ktr_room); (case ku => first | exact room1 hu rfl | ktr_units); intro t9 h9 tk9 F9 N9; (try dsimp only); (try k_fold)))
    | ((with_reducible show wpAny _ _ (call (Value.ref 120) _) _ _ _); k_dflt (refine' TellV.use (tell_make_event_str (by omega) (by omega)) ?k1 ?k2 ?k3 ?k4 ?k5 ?kK ?kd ?ku ?_; (case k1 => k_asm); (case k2 => k_asm); (case k3 => k_asm); (case k4 => k_asm); (case k5 => k_asm); (case kK => first | exact rfl | assumption); (case kd => first | exact room1 hd rfl | ktr_room); (case ku => first | exact room1 hu rfl | ktr_units); intro t9 h9 tk9 F9 N9; (try dsimp only); (try k_fold))))
  trivial
theorem tell_letters_ahead {w : World} {x : Str} {t : Tok} {news : Led} (hx : x.length ≤ 4000) :
   TellN w 240 [.str x t] news 20 160 (PairO (splitN (Lst x)).1 (splitN (Lst x)).2) := by
  k_with "execs cons" => (k_here; with_reducible refine exs_cons fun _ => ?_; k_fold)
  have hst := split_start x
  k_with "exec While BoolOp cons nil" => k_while (fun _ letters word => 2 * letters.length + word.length = x.length ∧ splitN (Lst x) = (Lst letters ++ (splitN (Lst word)).1, (splitN (Lst word)).2)) (fun _ _ word => word.length) "letters" "word"
  k_with "state" => first | exact hst | exact split_turn' (by assumption) (by assumption) (by assumption) (by assumption) (by assumption)
  k_with "measure" => exact cut_less (by assumption)
  have hfill : (PySem.Challenge.rw_np0049_01, hd.heap_39) = (PySem.Challenge.rw_np0049_01, hd.heap_39) := by k_fill; rfl
  clear hfill
  intro mean mg mb dp un gd cn cs a ccd cl outer A₀ base h₀ L m s Q E B F X N T hk hd hu hret
  refine wpAny_call ?_
  k_dflt (refine' code_defN ?k1 ?k2 ?k3 ?k4 ?k5 ?kA ?kF ?kK ?k6 ?k7 ?k8 ?k9 ?kB ?hl ?_ ?c2 ?c3 ?c4 ?c5; (case kA => exact rfl); (case kF => exact rfl); (case kK => assumption); (case k1 => k_asm); (case k2 => k_asm); (case k3 => k_asm); (case k4 => k_asm); (case k5 => k_asm); (case k6 => k_is); (case k7 => k_is); (case k8 => first | exact room0 hd | ktr_room); (case k9 => exact BindsTo.of_eq rfl); (case c5 => decide); (case kB => exact locs rfl); (case hl => first | exact (rfl : _ = [(_, _)]) | exact (rfl : _ = [(_, _), (_, _)]) | exact (rfl : _ = [(_, _), (_, _), (_, _)]) | exact rfl); (case c2 => exact rfl); (case c3 => exact rfl); (case c4 => exact rfl); k_whole; intro g' L' h' tkE FG' F' N' B' X' T'; (try dsimp only); (try k_lift B'); (try k_fold))
  (change let ev : Env := _; wpAny _ (Around.deeper _ ev) (execs _ ev) _ _ _)
  intro ev
  (change let Ax : Around := _; wpAny _ Ax (execs _ ev) _ _ _)
  intro Ax
  k_steps
  all_goals first
    | exact retN hret (by k_asm) (by k_asm) (by intro p hp; exact Nat.ne_of_lt ((by assumption : ∀ p ∈ news, p.1 < _) p hp)) (pairO (by rw [split_end3' (by assumption) (by assumption)]) (by rw [split_end3' (by assumption) (by assumption)]))
    | exact retN hret (by k_asm) (by k_asm) (by intro p hp; exact Nat.ne_of_lt ((by assumption : ∀ p ∈ news, p.1 < _) p hp)) (pairO (by rw [split_end2 (by assumption) (by assumption)]) (by rw [split_end2 (by assumption) (by assumption)]))
    | exact retN hret (by k_asm) (by k_asm) (by intro p hp; exact Nat.ne_of_lt ((by assumption : ∀ p ∈ news, p.1 < _) p hp)) (pairO (by rw [split_end1 (by assumption) (by assumption)]) (by rw [split_end1 (by assumption) (by assumption)]))
    | skip
  all_goals trace_state
  all_goals w_report
section
theorem ordx : (((Str.ofString "x").cps.getD 0 0 : Nat) : Int) = 120 := by decide +kernel
theorem tell_command_keys {w : World} {x : Str} {t : Tok} {news : Led} (hx : x.length ≤ 4000) :
   TellN w 266 [.str x t] news 20 160 (KListO (commandKeys (Lst x))) := by
  k_with "execs cons" => (k_here; with_reducible refine exs_cons fun _ => ?_; k_fold)
  k_with "binaryOp Add ref ref" => (k_here; with_reducible refine held_ ?_)
  have hsz : ∀ v : List Value, KeysAre v (plainKeys (Lst x)) → v.length ≤ 4000 := fun v K => by
    rw [K.len]; unfold plainKeys; rw [List.length_map, ← lst_len]; exact hx
  have hfill : (PySem.Challenge.rw_np0049_01, hd.heap_39) = (PySem.Challenge.rw_np0049_01, hd.heap_39) := by k_fill; rfl
  clear hfill
  intro mean mg mb dp un gd cn cs a ccd cl outer A₀ base h₀ L m s Q E B F X N T hk hd hu hret
  refine wpAny_call ?_
  k_dflt (refine' code_defN ?k1 ?k2 ?k3 ?k4 ?k5 ?kA ?kF ?kK ?k6 ?k7 ?k8 ?k9 ?kB ?hl ?_ ?c2 ?c3 ?c4 ?c5; (case kA => exact rfl); (case kF => exact rfl); (case kK => assumption); (case k1 => k_asm); (case k2 => k_asm); (case k3 => k_asm); (case k4 => k_asm); (case k5 => k_asm); (case k6 => k_is); (case k7 => k_is); (case k8 => first | exact room0 hd | ktr_room); (case k9 => exact BindsTo.of_eq rfl); (case c5 => decide); (case kB => exact locs rfl); (case hl => first | exact (rfl : _ = [(_, _)]) | exact (rfl : _ = [(_, _), (_, _)]) | exact (rfl : _ = [(_, _), (_, _), (_, _)]) | exact rfl); (case c2 => exact rfl); (case c3 => exact rfl); (case c4 => exact rfl); k_whole; intro g' L' h' tkE FG' F' N' B' X' T'; (try dsimp only); (try k_lift B'); (try k_fold))
  (change let ev : Env := _; wpAny _ (Around.deeper _ ev) (execs _ ev) _ _ _)
  intro ev
  (change let Ax : Around := _; wpAny _ Ax (execs _ ev) _ _ _)
  intro Ax
  k_steps
  have q := hsz _ (by assumption)
  refine heldI (add_listsD (by k_asm) (by k_asm) (.tail _ (.head _)) (.head _) ?_ fun D1 h1 F1 N1 l1 => ?_)
  · simp only [List.length_cons, List.length_nil]; omega
  k_steps
  refine heldI (add_listsD (by k_asm) (by k_asm) (.tail _ (.head _)) (.head _) ?_ fun D2 h2 F2 N2 l2 => ?_)
  · simp only [List.length_append, List.length_cons, List.length_nil]; omega
  k_steps
  refine retN2 hret (by k_asm) (by k_asm) (by k_mem) (by kcj_all) (fun p hp => Nat.ne_of_lt (l2 p (by simp [hp]))) ⟨_, _, ?_, rfl⟩
  rw [List.append_assoc]
  exact (KeysAre.one (k := .inl 134217848) (by rw [ordx]; rfl)).append (KeysAre.append (by assumption) (KeysAre.one (k := .inl 13) rfl))
end
theorem tell_named_key_none {w : World} {x ls : Str} {t u : Tok} {news : Led} (hx : x.length ≤ 4000) (hl : ls.length ≤ 4000) (h : codeNamed (Lst x) = none) :
   TellN w 280 [.str ls u, .str x t] news 60 480 (KListO [namedKey (Lst ls) (Lst x)]) := by
  k_with "execs cons" => (k_here; with_reducible refine exs_cons fun _ => ?_; k_fold)
  have hfill : (PySem.Challenge.rw_np0049_01, hd.heap_39) = (PySem.Challenge.rw_np0049_01, hd.heap_39) := by k_fill; rfl
  clear hfill
  intro mean mg mb dp un gd cn cs a ccd cl outer A₀ base h₀ L m s Q E B F X N T hk hd hu hret
  refine wpAny_call ?_
  k_dflt (refine' code_defN ?k1 ?k2 ?k3 ?k4 ?k5 ?kA ?kF ?kK ?k6 ?k7 ?k8 ?k9 ?kB ?hl ?_ ?c2 ?c3 ?c4 ?c5; (case kA => exact rfl); (case kF => exact rfl); (case kK => assumption); (case k1 => k_asm); (case k2 => k_asm); (case k3 => k_asm); (case k4 => k_asm); (case k5 => k_asm); (case k6 => k_is); (case k7 => k_is); (case k8 => first | exact room0 hd | ktr_room); (case k9 => exact BindsTo.of_eq rfl); (case c5 => decide); (case kB => exact locs rfl); (case hl => first | exact (rfl : _ = [(_, _)]) | exact (rfl : _ = [(_, _), (_, _)]) | exact (rfl : _ = [(_, _), (_, _), (_, _)]) | exact rfl); (case c2 => exact rfl); (case c3 => exact rfl); (case c4 => exact rfl); k_whole; intro g' L' h' tkE FG' F' N' B' X' T'; (try dsimp only); (try k_lift B'); (try k_fold))
  (change let ev : Env := _; wpAny _ (Around.deeper _ ev) (execs _ ev) _ _ _)
  intro ev
  (change let Ax : Around := _; wpAny _ Ax (execs _ ev) _ _ _)
  intro Ax
  k_steps
  refine retN hret (by k_asm) (by k_asm) (by intro p hp; exact Nat.ne_of_lt ((by assumption : ∀ p ∈ news, p.1 < _) p hp)) ⟨_, _, KeysAre.one' (k := namedKey (Lst ls) (Lst x)) ?_, rfl⟩
  unfold namedKey
  rw [h]; exact ⟨_, rfl⟩
theorem tell_named_key_some {w : World} {x ls : Str} {t u : Tok} {news : Led} {c : Int} (h : codeNamed (Lst x) = some c) :
   TellN w 280 [.str ls u, .str x t] news 60 480 (KListO [namedKey (Lst ls) (Lst x)]) := by
  k_with "execs cons" => (k_here; with_reducible refine exs_cons fun _ => ?_; k_fold)
  have hfill : (PySem.Challenge.rw_np0049_01, hd.heap_39) = (PySem.Challenge.rw_np0049_01, hd.heap_39) := by k_fill; rfl
  clear hfill
  intro mean mg mb dp un gd cn cs a ccd cl outer A₀ base h₀ L m s Q E B F X N T hk hd hu hret
  refine wpAny_call ?_
  k_dflt (refine' code_defN ?k1 ?k2 ?k3 ?k4 ?k5 ?kA ?kF ?kK ?k6 ?k7 ?k8 ?k9 ?kB ?hl ?_ ?c2 ?c3 ?c4 ?c5; (case kA => exact rfl); (case kF => exact rfl); (case kK => assumption); (case k1 => k_asm); (case k2 => k_asm); (case k3 => k_asm); (case k4 => k_asm); (case k5 => k_asm); (case k6 => k_is); (case k7 => k_is); (case k8 => first | exact room0 hd | ktr_room); (case k9 => exact BindsTo.of_eq rfl); (case c5 => decide); (case kB => exact locs rfl); (case hl => first | exact (rfl : _ = [(_, _)]) | exact (rfl : _ = [(_, _), (_, _)]) | exact (rfl : _ = [(_, _), (_, _), (_, _)]) | exact rfl); (case c2 => exact rfl); (case c3 => exact rfl); (case c4 => exact rfl); k_whole; intro g' L' h' tkE FG' F' N' B' X' T'; (try dsimp only); (try k_lift B'); (try k_fold))
  (change let ev : Env := _; wpAny _ (Around.deeper _ ev) (execs _ ev) _ _ _)
  intro ev
  (change let Ax : Around := _; wpAny _ Ax (execs _ ev) _ _ _)
  intro Ax
  k_steps
  refine retN hret (by k_asm) (by k_asm) (by intro p hp; exact Nat.ne_of_lt ((by assumption : ∀ p ∈ news, p.1 < _) p hp)) ⟨_, _, KeysAre.one' (k := namedKey (Lst ls) (Lst x)) ?_, rfl⟩
  unfold namedKey
  rw [h]; exact ⟨_, rfl⟩
theorem tell_named_key {w : World} {x ls : Str} {t u : Tok} {news : Led} (hx : x.length ≤ 4000) (hl : ls.length ≤ 4000) :
   TellN w 280 [.str ls u, .str x t] news 60 480 (KListO [namedKey (Lst ls) (Lst x)]) := by
  cases h : codeNamed (Lst x) with
  | none => exact tell_named_key_none hx hl h
  | some c => exact tell_named_key_some h
end
-- KbK
theorem zz_KbK {prog : Program} {w : World} {A : Around} {env : Env} {E : Value → Shared → Prop} {s : Shared} {Q : Flow → Shared → Prop} (h : Q .next s) : wpAny (model prog w) A (execs [] env) Q E s := by
  k_with_none
  walk1
  exact h
section
theorem tell_is_angled_t {w : World} {x : Str} {t : Tok} {news : Led} (hx : x.length ≤ 4000) (h : isAngled (Lst x) = true) : TellV w 254 [.str x t] news 2 16 (fun _ => .bool true) := by
  have := tell_is_angled (w := w) (x := x) (t := t) (news := news) hx; rw [h] at this; exact this
theorem tell_is_angled_f {w : World} {x : Str} {t : Tok} {news : Led} (hx : x.length ≤ 4000) (h : isAngled (Lst x) = false) : TellV w 254 [.str x t] news 2 16 (fun _ => .bool false) := by
  have := tell_is_angled (w := w) (x := x) (t := t) (news := news) hx; rw [h] at this; exact this
theorem tell_is_command_word_t {w : World} {x : Str} {t : Tok} {news : Led} (hx : x.length ≤ 4000) (h : isCommand (Lst x) = true) : TellV w 247 [.str x t] news 2 16 (fun _ => .bool true) := by
  have := tell_is_command_word (w := w) (x := x) (t := t) (news := news) hx; rw [h] at this; exact this
theorem tell_is_command_word_f {w : World} {x : Str} {t : Tok} {news : Led} (hx : x.length ≤ 4000) (h : isCommand (Lst x) = false) : TellV w 247 [.str x t] news 2 16 (fun _ => .bool false) := by
  have := tell_is_command_word (w := w) (x := x) (t := t) (news := news) hx; rw [h] at this; exact this
theorem tell_caret_code_at {w : World} {x : Str} {c : Nat} {t : Tok} {news : Led} (h : x = Tx [c]) : TellV w 273 [.str x t] news 3 24 (fun t => .int (caretCode c) t) := by
  subst h; exact tell_caret_code
theorem ang_slice {x : Str} (h : isAngled (Lst x) = true) : Lst (Txt.slice x (some 1) (some (-1))) = ((Lst x).drop 1).take ((Lst x).length - 2) := by
  have hl : 2 < (Lst x).length := by
    unfold isAngled at h
    simp only [Bool.and_eq_true, decide_eq_true_eq] at h
    exact h.1.1
  have := slice_mid_neg x 1 1 (by omega) (by omega)
  rw [Nat.sub_sub] at this
  exact this
theorem kc_6cb16ec0875 : True := by
  k_with_none
  k_with "call ref cons" => (k_here; first
    | ((with_reducible show wpAny _ _ (call (Value.ref 254) _) _ _ _); k_dflt (refine' TellV.use (tell_is_angled_t (by assumption) (by assumption)) ?k1 ?k2 ?k3 ?k4 ?k5 ?kK ?kd ?ku ?_; (case k1 => k_asm); (case k2 => k_asm); (case k3 => k_asm); (case k4 => k_asm); (case k5 => k_asm); (case kK => first | exact rfl | assumption); (case kd => first | exact room1 hd rfl | ktr_room); (case ku => first | exact room1 hu rfl | ktr_units); intro t9 h9 tk9 F9 N9; (try dsimp only); (try k_fold)))
    | ((with_reducible show wpAny _ _ (call (Value.ref 254) _) _ _ _); k_dflt (refine' TellV.use (tell_is_angled_f (by assumption) (by assumption)) ?k1 ?k2 ?k3 ?k4 ?k5 ?kK ?kd ?ku ?_; (case k1 => k_asm); (case k2 => k_asm); (case k3 => k_asm); (case k4 => k_asm); (case k5 => k_asm); (case kK => first | exact rfl | assumption); (case kd => first | exact room1 hd rfl | ktr_room); (case ku => first | exact room1 hu rfl | ktr_units); intro t9 h9 tk9 F9 N9; (try dsimp only); (try k_fold)))
    | ((with_reducible show wpAny _ _ (call (Value.ref 280) _) _ _ _); k_dflt (refine' TellN.use2 (tell_named_key (by (omega)) (by (omega))) ?k1 ?k2 ?k3 ?k4 ?k5 ?kK ?kd ?ku ?_; (case k1 => k_asm); (case k2 => k_asm); (case k3 => k_asm); (case k4 => k_asm); (case k5 => k_asm); (case kK => first | exact rfl | assumption); (case kd => first | exact room1 hd rfl | ktr_room); (case ku => first | exact room1 hu rfl | ktr_units); intro D9 v9 n9 h9 tk9 F9 N9 l9 K9; (try dsimp only); (try k_fold)))
    | ((with_reducible show wpAny _ _ (call (Value.ref 150) _) _ _ _); k_dflt (refine' TellV.use (tell_code_named_none (by assumption)) ?k1 ?k2 ?k3 ?k4 ?k5 ?kK ?kd ?ku ?_; (case k1 => k_asm); (case k2 => k_asm); (case k3 => k_asm); (case k4 => k_asm); (case k5 => k_asm); (case kK => first | exact rfl | assumption); (case kd => first | exact room1 hd rfl | ktr_room); (case ku => first | exact room1 hu rfl | ktr_units); intro t9 h9 tk9 F9 N9; (try dsimp only); (try k_fold)))
    | ((with_reducible show wpAny _ _ (call (Value.ref 150) _) _ _ _); k_dflt (refine' TellV.use (tell_code_named_some (by assumption)) ?k1 ?k2 ?k3 ?k4 ?k5 ?kK ?kd ?ku ?_; (case k1 => k_asm); (case k2 => k_asm); (case k3 => k_asm); (case k4 => k_asm); (case k5 => k_asm); (case kK => first | exact rfl | assumption); (case kd => first | exact room1 hd rfl | ktr_room); (case ku => first | exact room1 hu rfl | ktr_units); intro t9 h9 tk9 F9 N9; (try dsimp only); (try k_fold)))
    | ((with_reducible show wpAny _ _ (call (Value.ref 273) _) _ _ _); k_dflt (refine' TellV.use (tell_caret_code_at (by assumption)) ?k1 ?k2 ?k3 ?k4 ?k5 ?kK ?kd ?ku ?_; (case k1 => k_asm); (case k2 => k_asm); (case k3 => k_asm); (case k4 => k_asm); (case k5 => k_asm); (case kK => first | exact rfl | assumption); (case kd => first | exact room1 hd rfl | ktr_room); (case ku => first | exact room1 hu rfl | ktr_units); intro t9 h9 tk9 F9 N9; (try dsimp only); (try k_fold)))
    | ((with_reducible show wpAny _ _ (call (Value.ref 120) _) _ _ _); k_dflt (refine' TellV.use (tell_make_event_int ) ?k1 ?k2 ?k3 ?k4 ?k5 ?kK ?kd ?ku ?_; (case k1 => k_asm); (case k2 => k_asm); (case k3 => k_asm); (case k4 => k_asm); (case k5 => k_asm); (case kK => first | exact rfl | assumption); (case kd => first | exact room1 hd rfl | ktr_room); (case ku => first | exact room1 hu rfl | ktr_units); intro t9 h9 tk9 F9 N9; (try dsimp only); (try k_fold))))
  trivial
theorem tell_modified_key_A {w : World} {ls x z : Str} {t u v : Tok} {news : Led} (hl : ls.length ≤ 4000) (hx : x.length ≤ 4000) (h : isAngled (Lst x) = true) :
   TellN w 287 [.str ls t, .str x u, .str z v] news 70 560 (KListO [namedKey (Lst ls) ((Lst x).drop 1 |>.take ((Lst x).length - 2))]) := by
  k_with "execs cons" => (k_here; with_reducible refine exs_cons fun _ => ?_; k_fold)
  have hfill : (PySem.Challenge.rw_np0049_01, hd.heap_39) = (PySem.Challenge.rw_np0049_01, hd.heap_39) := by k_fill; rfl
  clear hfill
  intro mean mg mb dp un gd cn cs a ccd cl outer A₀ base h₀ L m s Q E B F X N T hk hd hu hret
  refine wpAny_call ?_
  k_dflt (refine' code_defN ?k1 ?k2 ?k3 ?k4 ?k5 ?kA ?kF ?kK ?k6 ?k7 ?k8 ?k9 ?kB ?hl ?_ ?c2 ?c3 ?c4 ?c5; (case kA => exact rfl); (case kF => exact rfl); (case kK => assumption); (case k1 => k_asm); (case k2 => k_asm); (case k3 => k_asm); (case k4 => k_asm); (case k5 => k_asm); (case k6 => k_is); (case k7 => k_is); (case k8 => first | exact room0 hd | ktr_room); (case k9 => exact BindsTo.of_eq rfl); (case c5 => decide); (case kB => exact locs rfl); (case hl => first | exact (rfl : _ = [(_, _)]) | exact (rfl : _ = [(_, _), (_, _)]) | exact (rfl : _ = [(_, _), (_, _), (_, _)]) | exact rfl); (case c2 => exact rfl); (case c3 => exact rfl); (case c4 => exact rfl); k_whole; intro g' L' h' tkE FG' F' N' B' X' T'; (try dsimp only); (try k_lift B'); (try k_fold))
  (change let ev : Env := _; wpAny _ (Around.deeper _ ev) (execs _ ev) _ _ _)
  intro ev
  (change let Ax : Around := _; wpAny _ Ax (execs _ ev) _ _ _)
  intro Ax
  k_steps
  refine retN hret (by k_asm) (by k_asm) (by assumption) ⟨_, _, ?_, rfl⟩
  rw [← ang_slice (by assumption)]
  assumption
theorem tell_modified_key_B {w : World} {ls x z : Str} {t u v : Tok} {news : Led} {c : Int} (hx : x.length ≤ 4000) (h : isAngled (Lst x) = false) (hc : codeNamed (Lst x) = some c) :
   TellN w 287 [.str ls t, .str x u, .str z v] news 70 560 (KListO [makeEvent (.inl c) (Lst ls)]) := by
  k_with "execs cons" => (k_here; with_reducible refine exs_cons fun _ => ?_; k_fold)
  have hfill : (PySem.Challenge.rw_np0049_01, hd.heap_39) = (PySem.Challenge.rw_np0049_01, hd.heap_39) := by k_fill; rfl
  clear hfill
  intro mean mg mb dp un gd cn cs a ccd cl outer A₀ base h₀ L m s Q E B F X N T hk hd hu hret
  refine wpAny_call ?_
  k_dflt (refine' code_defN ?k1 ?k2 ?k3 ?k4 ?k5 ?kA ?kF ?kK ?k6 ?k7 ?k8 ?k9 ?kB ?hl ?_ ?c2 ?c3 ?c4 ?c5; (case kA => exact rfl); (case kF => exact rfl); (case kK => assumption); (case k1 => k_asm); (case k2 => k_asm); (case k3 => k_asm); (case k4 => k_asm); (case k5 => k_asm); (case k6 => k_is); (case k7 => k_is); (case k8 => first | exact room0 hd | ktr_room); (case k9 => exact BindsTo.of_eq rfl); (case c5 => decide); (case kB => exact locs rfl); (case hl => first | exact (rfl : _ = [(_, _)]) | exact (rfl : _ = [(_, _), (_, _)]) | exact (rfl : _ = [(_, _), (_, _), (_, _)]) | exact rfl); (case c2 => exact rfl); (case c3 => exact rfl); (case c4 => exact rfl); k_whole; intro g' L' h' tkE FG' F' N' B' X' T'; (try dsimp only); (try k_lift B'); (try k_fold))
  (change let ev : Env := _; wpAny _ (Around.deeper _ ev) (execs _ ev) _ _ _)
  intro ev
  (change let Ax : Around := _; wpAny _ Ax (execs _ ev) _ _ _)
  intro Ax
  k_steps
  exact retN hret (by k_asm) (by k_asm) (by first | assumption | exact lt_nes (by assumption) | exact fn1 (by assumption) | exact fn2 (by assumption) | exact fr1 (by assumption) | exact fr2 (by assumption) | exact fr3 (by assumption)) ⟨_, _, KeysAre.one' ⟨_, rfl⟩, rfl⟩
theorem tell_modified_key_C {w : World} {ls x z : Str} {t u v : Tok} {news : Led} {c : Nat} (hx : x.length ≤ 4000) (h : isAngled (Lst x) = false) (hc : codeNamed (Lst x) = none) (hq : Lst x = [94, c]) :
   TellN w 287 [.str ls t, .str x u, .str z v] news 70 560 (KListO [makeEvent (.inl (caretCode c)) (Lst ls)]) := by
  k_with "execs cons" => (k_here; with_reducible refine exs_cons fun _ => ?_; k_fold)
  have q1 : x.length = 2 := by rw [lst_len, hq]; rfl
  have q2 : Txt.item x 1 = Tx [c] := item_1 hq
  have q3 : (Txt.item x 0 == Str.ofString "^") = true := by rw [item_0 hq]; decide +kernel
  have hfill : (PySem.Challenge.rw_np0049_01, hd.heap_39) = (PySem.Challenge.rw_np0049_01, hd.heap_39) := by k_fill; rfl
  clear hfill
  intro mean mg mb dp un gd cn cs a ccd cl outer A₀ base h₀ L m s Q E B F X N T hk hd hu hret
  refine wpAny_call ?_
  k_dflt (refine' code_defN ?k1 ?k2 ?k3 ?k4 ?k5 ?kA ?kF ?kK ?k6 ?k7 ?k8 ?k9 ?kB ?hl ?_ ?c2 ?c3 ?c4 ?c5; (case kA => exact rfl); (case kF => exact rfl); (case kK => assumption); (case k1 => k_asm); (case k2 => k_asm); (case k3 => k_asm); (case k4 => k_asm); (case k5 => k_asm); (case k6 => k_is); (case k7 => k_is); (case k8 => first | exact room0 hd | ktr_room); (case k9 => exact BindsTo.of_eq rfl); (case c5 => decide); (case kB => exact locs rfl); (case hl => first | exact (rfl : _ = [(_, _)]) | exact (rfl : _ = [(_, _), (_, _)]) | exact (rfl : _ = [(_, _), (_, _), (_, _)]) | exact rfl); (case c2 => exact rfl); (case c3 => exact rfl); (case c4 => exact rfl); k_whole; intro g' L' h' tkE FG' F' N' B' X' T'; (try dsimp only); (try k_lift B'); (try k_fold))
  (change let ev : Env := _; wpAny _ (Around.deeper _ ev) (execs _ ev) _ _ _)
  intro ev
  (change let Ax : Around := _; wpAny _ Ax (execs _ ev) _ _ _)
  intro Ax
  k_steps
  all_goals first
    | exact retN hret (by k_asm) (by k_asm) (by first | assumption | exact lt_nes (by assumption) | exact fn1 (by assumption) | exact fn2 (by assumption) | exact fr1 (by assumption) | exact fr2 (by assumption) | exact fr3 (by assumption)) ⟨_, _, KeysAre.one' ⟨_, rfl⟩, rfl⟩
    | (exfalso; have q9 : (Txt.item x 0 == Str.ofString "^") = false := by assumption; rw [q3] at q9; cases q9)
    | (exfalso; omega)
    | skip
  all_goals trace_state
  all_goals w_report
theorem tell_modified_key_D {w : World} {ls x z : Str} {t u v : Tok} {news : Led} {c : Nat} (hx : x.length ≤ 4000) (h : isAngled (Lst x) = false) (hc : codeNamed (Lst x) = none) (hq : Lst x = [c]) :
   TellN w 287 [.str ls t, .str x u, .str z v] news 70 560 (KListO [makeEvent (.inl (c : Int)) (Lst ls)]) := by
  k_with "execs cons" => (k_here; with_reducible refine exs_cons fun _ => ?_; k_fold)
  have q1 : x.length = 1 := by rw [lst_len, hq]; rfl
  have q5 : x.cps.getD 0 0 = c := by rw [eq_T hq]; rfl
  subst q5
  have hfill : (PySem.Challenge.rw_np0049_01, hd.heap_39) = (PySem.Challenge.rw_np0049_01, hd.heap_39) := by k_fill; rfl
  clear hfill
  intro mean mg mb dp un gd cn cs a ccd cl outer A₀ base h₀ L m s Q E B F X N T hk hd hu hret
  refine wpAny_call ?_
  k_dflt (refine' code_defN ?k1 ?k2 ?k3 ?k4 ?k5 ?kA ?kF ?kK ?k6 ?k7 ?k8 ?k9 ?kB ?hl ?_ ?c2 ?c3 ?c4 ?c5; (case kA => exact rfl); (case kF => exact rfl); (case kK => assumption); (case k1 => k_asm); (case k2 => k_asm); (case k3 => k_asm); (case k4 => k_asm); (case k5 => k_asm); (case k6 => k_is); (case k7 => k_is); (case k8 => first | exact room0 hd | ktr_room); (case k9 => exact BindsTo.of_eq rfl); (case c5 => decide); (case kB => exact locs rfl); (case hl => first | exact (rfl : _ = [(_, _)]) | exact (rfl : _ = [(_, _), (_, _)]) | exact (rfl : _ = [(_, _), (_, _), (_, _)]) | exact rfl); (case c2 => exact rfl); (case c3 => exact rfl); (case c4 => exact rfl); k_whole; intro g' L' h' tkE FG' F' N' B' X' T'; (try dsimp only); (try k_lift B'); (try k_fold))
  (change let ev : Env := _; wpAny _ (Around.deeper _ ev) (execs _ ev) _ _ _)
  intro ev
  (change let Ax : Around := _; wpAny _ Ax (execs _ ev) _ _ _)
  intro Ax
  k_steps
  all_goals first
    | exact retN hret (by k_asm) (by k_asm) (by first | assumption | exact lt_nes (by assumption) | exact fn1 (by assumption) | exact fn2 (by assumption) | exact fr1 (by assumption) | exact fr2 (by assumption) | exact fr3 (by assumption)) ⟨_, _, KeysAre.one' ⟨_, rfl⟩, rfl⟩
    | (exfalso; omega)
    | skip
  all_goals trace_state
  all_goals w_report
end
-- KbL
theorem zz_KbL {prog : Program} {w : World} {A : Around} {env : Env} {E : Value → Shared → Prop} {s : Shared} {Q : Flow → Shared → Prop} (h : Q .next s) : wpAny (model prog w) A (execs [] env) Q E s := by
  k_with_none
  walk1
  exact h
section
theorem tell_modified_key {w : World} {ls x z : Str} {t u v : Tok} {news : Led} {k : Key} (hl : ls.length ≤ 4000) (hx : x.length ≤ 4000) (hk : modifiedKey (Lst ls) (Lst x) = some k) :
   TellN w 287 [.str ls t, .str x u, .str z v] news 70 560 (KListO [k]) := by
  unfold modifiedKey at hk
  split at hk
  · cases hk
    exact tell_modified_key_A hl hx (by assumption)
  · have hna : isAngled (Lst x) = false := by simpa using ‹¬ isAngled (Lst x) = true›
    unfold restCode at hk
    split at hk
    · cases hk
      exact tell_modified_key_B hx hna (by assumption)
    · split at hk
      · cases hk
        exact tell_modified_key_C hx hna (by assumption) (by assumption)
      · cases hk
        exact tell_modified_key_D hx hna (by assumption) (by assumption)
      · cases hk
theorem split_len1 : ∀ l : List Nat, (splitN l).1.length ≤ l.length
  | [] => Nat.le_refl _
  | [_] => Nat.zero_le _
  | [_, _] => Nat.zero_le _
  | a :: b :: c :: r => by
    rw [splitN]
    split
    · have := split_len1 (c :: r)
      simp only [List.length_cons] at this ⊢; omega
    · exact Nat.zero_le _
theorem cmd_slice {x : Str} (h : isCommand (Lst x) = true) : Lst (Txt.slice x (some 2) (some (-2))) = ((Lst x).drop 2).take ((Lst x).length - 4) := by
  have hl : 4 < (Lst x).length := by
    unfold isCommand at h
    simp only [Bool.and_eq_true, decide_eq_true_eq] at h
    exact h.1.1
  have := slice_mid_neg x 2 2 (by omega) (by omega)
  rw [Nat.sub_sub] at this
  exact this
theorem kc_d7cb7f98597 : True := by
  k_with_none
  k_with "call ref cons" => (k_here; first
    | ((with_reducible show wpAny _ _ (call (Value.ref 247) _) _ _ _); k_dflt (refine' TellV.use (tell_is_command_word_t (by assumption) (by assumption)) ?k1 ?k2 ?k3 ?k4 ?k5 ?kK ?kd ?ku ?_; (case k1 => k_asm); (case k2 => k_asm); (case k3 => k_asm); (case k4 => k_asm); (case k5 => k_asm); (case kK => first | exact rfl | assumption); (case kd => first | exact room1 hd rfl | ktr_room); (case ku => first | exact room1 hu rfl | ktr_units); intro t9 h9 tk9 F9 N9; (try dsimp only); (try k_fold)))
    | ((with_reducible show wpAny _ _ (call (Value.ref 247) _) _ _ _); k_dflt (refine' TellV.use (tell_is_command_word_f (by assumption) (by assumption)) ?k1 ?k2 ?k3 ?k4 ?k5 ?kK ?kd ?ku ?_; (case k1 => k_asm); (case k2 => k_asm); (case k3 => k_asm); (case k4 => k_asm); (case k5 => k_asm); (case kK => first | exact rfl | assumption); (case kd => first | exact room1 hd rfl | ktr_room); (case ku => first | exact room1 hu rfl | ktr_units); intro t9 h9 tk9 F9 N9; (try dsimp only); (try k_fold)))
    | ((with_reducible show wpAny _ _ (call (Value.ref 266) _) _ _ _); k_dflt (refine' TellN.use2 (tell_command_keys (by omega)) ?k1 ?k2 ?k3 ?k4 ?k5 ?kK ?kd ?ku ?_; (case k1 => k_asm); (case k2 => k_asm); (case k3 => k_asm); (case k4 => k_asm); (case k5 => k_asm); (case kK => first | exact rfl | assumption); (case kd => first | exact room1 hd rfl | ktr_room); (case ku => first | exact room1 hu rfl | ktr_units); intro D9 v9 n9 h9 tk9 F9 N9 l9 K9; (try dsimp only); (try k_fold)))
    | ((with_reducible show wpAny _ _ (call (Value.ref 240) _) _ _ _); k_dflt (refine' TellN.use1 (tell_letters_ahead (by assumption)) ?k1 ?k2 ?k3 ?k4 ?k5 ?kK ?kd ?ku ?_; (case k1 => k_asm); (case k2 => k_asm); (case k3 => k_asm); (case k4 => k_asm); (case k5 => k_asm); (case kK => first | exact rfl | assumption); (case kd => first | exact room1 hd rfl | ktr_room); (case ku => first | exact room1 hu rfl | ktr_units); intro D9 t9 u9 h9 tk9 F9 N9 l9; (try dsimp only); (try k_fold)))
    | ((with_reducible show wpAny _ _ (call (Value.ref 287) _) _ _ _); k_dflt (refine' TellN.use2 (tell_modified_key (by assumption) (by assumption) (by assumption)) ?k1 ?k2 ?k3 ?k4 ?k5 ?kK ?kd ?ku ?_; (case k1 => k_asm); (case k2 => k_asm); (case k3 => k_asm); (case k4 => k_asm); (case k5 => k_asm); (case kK => first | exact rfl | assumption); (case kd => first | exact room1 hd rfl | ktr_room); (case ku => first | exact room1 hu rfl | ktr_units); intro D9 v9 n9 h9 tk9 F9 N9 l9 K9; (try dsimp only); (try k_fold)))
    | ((with_reducible show wpAny _ _ (call (Value.ref 254) _) _ _ _); k_dflt (refine' TellV.use (tell_is_angled_t (by assumption) (by assumption)) ?k1 ?k2 ?k3 ?k4 ?k5 ?kK ?kd ?ku ?_; (case k1 => k_asm); (case k2 => k_asm); (case k3 => k_asm); (case k4 => k_asm); (case k5 => k_asm); (case kK => first | exact rfl | assumption); (case kd => first | exact room1 hd rfl | ktr_room); (case ku => first | exact room1 hu rfl | ktr_units); intro t9 h9 tk9 F9 N9; (try dsimp only); (try k_fold)))
    | ((with_reducible show wpAny _ _ (call (Value.ref 254) _) _ _ _); k_dflt (refine' TellV.use (tell_is_angled_f (by assumption) (by assumption)) ?k1 ?k2 ?k3 ?k4 ?k5 ?kK ?kd ?ku ?_; (case k1 => k_asm); (case k2 => k_asm); (case k3 => k_asm); (case k4 => k_asm); (case k5 => k_asm); (case kK => first | exact rfl | assumption); (case kd => first | exact room1 hd rfl | ktr_room); (case ku => first | exact room1 hu rfl | ktr_units); intro t9 h9 tk9 F9 N9; (try dsimp only); (try k_fold)))
    | ((with_reducible show wpAny _ _ (call (Value.ref 150) _) _ _ _); k_dflt (refine' TellV.use (tell_code_named_none (by assumption)) ?k1 ?k2 ?k3 ?k4 ?k5 ?kK ?kd ?ku ?_; (case k1 => k_asm); (case k2 => k_asm); (case k3 => k_asm); (case k4 => k_asm); (case k5 => k_asm); (case kK => first | exact rfl | assumption); (case kd => first | exact room1 hd rfl | ktr_room); (case ku => first | exact room1 hu rfl | ktr_units); intro t9 h9 tk9 F9 N9; (try dsimp only); (try k_fold)))
    | ((with_reducible show wpAny _ _ (call (Value.ref 150) _) _ _ _); k_dflt (refine' TellV.use (tell_code_named_some (by assumption)) ?k1 ?k2 ?k3 ?k4 ?k5 ?kK ?kd ?ku ?_; (case k1 => k_asm); (case k2 => k_asm); (case k3 => k_asm); (case k4 => k_asm); (case k5 => k_asm); (case kK => first | exact rfl | assumption); (case kd => first | exact room1 hd rfl | ktr_room); (case ku => first | exact room1 hu rfl | ktr_units); intro t9 h9 tk9 F9 N9; (try dsimp only); (try k_fold)))
    | ((with_reducible show wpAny _ _ (call (Value.ref 259) _) _ _ _); k_dflt (refine' TellN.use2 (tell_plain_signs (by assumption)) ?k1 ?k2 ?k3 ?k4 ?k5 ?kK ?kd ?ku ?_; (case k1 => k_asm); (case k2 => k_asm); (case k3 => k_asm); (case k4 => k_asm); (case k5 => k_asm); (case kK => first | exact rfl | assumption); (case kd => first | exact room1 hd rfl | ktr_room); (case ku => first | exact room1 hu rfl | ktr_units); intro D9 v9 n9 h9 tk9 F9 N9 l9 K9; (try dsimp only); (try k_fold))))
  trivial
theorem tell_word_keys_1 {w : World} {x : Str} {t : Tok} {news : Led} (hx : x.length ≤ 4000) (h : isCommand (Lst x) = true) :
   TellN w 294 [.str x t] news 80 640 (KListO (commandKeys (((Lst x).drop 2).take ((Lst x).length - 4)))) := by
  k_with "execs cons" => (k_here; with_reducible refine exs_cons fun _ => ?_; k_fold)
  have hfill : (PySem.Challenge.rw_np0049_01, hd.heap_39) = (PySem.Challenge.rw_np0049_01, hd.heap_39) := by k_fill; rfl
  clear hfill
  intro mean mg mb dp un gd cn cs a ccd cl outer A₀ base h₀ L m s Q E B F X N T hk hd hu hret
  refine wpAny_call ?_
  k_dflt (refine' code_defN ?k1 ?k2 ?k3 ?k4 ?k5 ?kA ?kF ?kK ?k6 ?k7 ?k8 ?k9 ?kB ?hl ?_ ?c2 ?c3 ?c4 ?c5; (case kA => exact rfl); (case kF => exact rfl); (case kK => assumption); (case k1 => k_asm); (case k2 => k_asm); (case k3 => k_asm); (case k4 => k_asm); (case k5 => k_asm); (case k6 => k_is); (case k7 => k_is); (case k8 => first | exact room0 hd | ktr_room); (case k9 => exact BindsTo.of_eq rfl); (case c5 => decide); (case kB => exact locs rfl); (case hl => first | exact (rfl : _ = [(_, _)]) | exact (rfl : _ = [(_, _), (_, _)]) | exact (rfl : _ = [(_, _), (_, _), (_, _)]) | exact rfl); (case c2 => exact rfl); (case c3 => exact rfl); (case c4 => exact rfl); k_whole; intro g' L' h' tkE FG' F' N' B' X' T'; (try dsimp only); (try k_lift B'); (try k_fold))
  (change let ev : Env := _; wpAny _ (Around.deeper _ ev) (execs _ ev) _ _ _)
  intro ev
  (change let Ax : Around := _; wpAny _ Ax (execs _ ev) _ _ _)
  intro Ax
  k_steps
  refine retN2 hret (by k_asm) (by k_asm) (by k_mem) (by kcj_all) (by first | assumption | exact lt_nes (by assumption) | exact fn1 (by assumption) | exact fn2 (by assumption) | exact fr1 (by assumption) | exact fr2 (by assumption) | exact fr3 (by assumption)) ⟨_, _, ?_, rfl⟩
  rw [← cmd_slice (by assumption)]
  assumption
theorem tell_word_keys_2 {w : World} {x : Str} {t : Tok} {news : Led} {k : Key} (hx : x.length ≤ 4000) (h : isCommand (Lst x) = false) (hs : (splitN (Lst x)).1 ≠ []) (hk : modifiedKey (splitN (Lst x)).1 (splitN (Lst x)).2 = some k) :
   TellN w 294 [.str x t] news 80 640 (KListO [k]) := by
  k_with "execs cons" => (k_here; with_reducible refine exs_cons fun _ => ?_; k_fold)
  have q1 : (Tx (splitN (Lst x)).1).length ≤ 4000 := by rw [T_len]; have := split_len1 (Lst x); rw [lst_len] at hx; omega
  have q2 : (Tx (splitN (Lst x)).2).length ≤ 4000 := by rw [T_len]; have := split_len (Lst x); rw [lst_len] at hx; omega
  have q3 : modifiedKey (Lst (Tx (splitN (Lst x)).1)) (Lst (Tx (splitN (Lst x)).2)) = some k := by rw [lst_Tx, lst_Tx]; exact hk
  have q4 : (Tx (splitN (Lst x)).1 != Str.ofString "") = true := by
    rw [bne_lst, lst_Tx, nil_lst]; simpa using hs
  have hfill : (PySem.Challenge.rw_np0049_01, hd.heap_39) = (PySem.Challenge.rw_np0049_01, hd.heap_39) := by k_fill; rfl
  clear hfill
  intro mean mg mb dp un gd cn cs a ccd cl outer A₀ base h₀ L m s Q E B F X N T hk hd hu hret
  refine wpAny_call ?_
  k_dflt (refine' code_defN ?k1 ?k2 ?k3 ?k4 ?k5 ?kA ?kF ?kK ?k6 ?k7 ?k8 ?k9 ?kB ?hl ?_ ?c2 ?c3 ?c4 ?c5; (case kA => exact rfl); (case kF => exact rfl); (case kK => assumption); (case k1 => k_asm); (case k2 => k_asm); (case k3 => k_asm); (case k4 => k_asm); (case k5 => k_asm); (case k6 => k_is); (case k7 => k_is); (case k8 => first | exact room0 hd | ktr_room); (case k9 => exact BindsTo.of_eq rfl); (case c5 => decide); (case kB => exact locs rfl); (case hl => first | exact (rfl : _ = [(_, _)]) | exact (rfl : _ = [(_, _), (_, _)]) | exact (rfl : _ = [(_, _), (_, _), (_, _)]) | exact rfl); (case c2 => exact rfl); (case c3 => exact rfl); (case c4 => exact rfl); k_whole; intro g' L' h' tkE FG' F' N' B' X' T'; (try dsimp only); (try k_lift B'); (try k_fold))
  (change let ev : Env := _; wpAny _ (Around.deeper _ ev) (execs _ ev) _ _ _)
  intro ev
  (change let Ax : Around := _; wpAny _ Ax (execs _ ev) _ _ _)
  intro Ax
  k_steps
  exact retN2 hret (by k_asm) (by k_asm) (by k_mem) (by kcj_all) (by first | assumption | exact lt_nes (by assumption) | exact fn1 (by assumption) | exact fn2 (by assumption) | exact fr1 (by assumption) | exact fr2 (by assumption) | exact fr3 (by assumption)) ⟨_, _, by assumption, rfl⟩
theorem tell_word_keys_3a {w : World} {x : Str} {t : Tok} {news : Led} {k : Key} (hx : x.length ≤ 4000) (h : isCommand (Lst x) = false) (hs : (splitN (Lst x)).1 = []) (ha : isAngled (Lst x) = true) (hk : modifiedKey [] (Lst x) = some k) :
   TellN w 294 [.str x t] news 80 640 (KListO [k]) := by
  k_with "execs cons" => (k_here; with_reducible refine exs_cons fun _ => ?_; k_fold)
  have q1 : (Str.ofString "").length ≤ 4000 := by decide +kernel
  have q3 : modifiedKey (Lst (Str.ofString "")) (Lst x) = some k := by rw [nil_lst]; exact hk
  have q4 : (Tx (splitN (Lst x)).1 != Str.ofString "") = false := by
    rw [bne_lst, lst_Tx, nil_lst]; simpa using hs
  have hfill : (PySem.Challenge.rw_np0049_01, hd.heap_39) = (PySem.Challenge.rw_np0049_01, hd.heap_39) := by k_fill; rfl
  clear hfill
  intro mean mg mb dp un gd cn cs a ccd cl outer A₀ base h₀ L m s Q E B F X N T hk hd hu hret
  refine wpAny_call ?_
  k_dflt (refine' code_defN ?k1 ?k2 ?k3 ?k4 ?k5 ?kA ?kF ?kK ?k6 ?k7 ?k8 ?k9 ?kB ?hl ?_ ?c2 ?c3 ?c4 ?c5; (case kA => exact rfl); (case kF => exact rfl); (case kK => assumption); (case k1 => k_asm); (case k2 => k_asm); (case k3 => k_asm); (case k4 => k_asm); (case k5 => k_asm); (case k6 => k_is); (case k7 => k_is); (case k8 => first | exact room0 hd | ktr_room); (case k9 => exact BindsTo.of_eq rfl); (case c5 => decide); (case kB => exact locs rfl); (case hl => first | exact (rfl : _ = [(_, _)]) | exact (rfl : _ = [(_, _), (_, _)]) | exact (rfl : _ = [(_, _), (_, _), (_, _)]) | exact rfl); (case c2 => exact rfl); (case c3 => exact rfl); (case c4 => exact rfl); k_whole; intro g' L' h' tkE FG' F' N' B' X' T'; (try dsimp only); (try k_lift B'); (try k_fold))
  (change let ev : Env := _; wpAny _ (Around.deeper _ ev) (execs _ ev) _ _ _)
  intro ev
  (change let Ax : Around := _; wpAny _ Ax (execs _ ev) _ _ _)
  intro Ax
  k_steps
  exact retN2 hret (by k_asm) (by k_asm) (by k_mem) (by kcj_all) (by first | assumption | exact lt_nes (by assumption) | exact fn1 (by assumption) | exact fn2 (by assumption) | exact fr1 (by assumption) | exact fr2 (by assumption) | exact fr3 (by assumption)) ⟨_, _, by assumption, rfl⟩
theorem tell_word_keys_3b {w : World} {x : Str} {t : Tok} {news : Led} {k : Key} {c : Int} (hx : x.length ≤ 4000) (h : isCommand (Lst x) = false) (hs : (splitN (Lst x)).1 = []) (ha : isAngled (Lst x) = false) (hc : codeNamed (Lst x) = some c) (hk : modifiedKey [] (Lst x) = some k) :
   TellN w 294 [.str x t] news 80 640 (KListO [k]) := by
  k_with "execs cons" => (k_here; with_reducible refine exs_cons fun _ => ?_; k_fold)
  have q1 : (Str.ofString "").length ≤ 4000 := by decide +kernel
  have q3 : modifiedKey (Lst (Str.ofString "")) (Lst x) = some k := by rw [nil_lst]; exact hk
  have q4 : (Tx (splitN (Lst x)).1 != Str.ofString "") = false := by
    rw [bne_lst, lst_Tx, nil_lst]; simpa using hs
  have hfill : (PySem.Challenge.rw_np0049_01, hd.heap_39) = (PySem.Challenge.rw_np0049_01, hd.heap_39) := by k_fill; rfl
  clear hfill
  intro mean mg mb dp un gd cn cs a ccd cl outer A₀ base h₀ L m s Q E B F X N T hk hd hu hret
  refine wpAny_call ?_
  k_dflt (refine' code_defN ?k1 ?k2 ?k3 ?k4 ?k5 ?kA ?kF ?kK ?k6 ?k7 ?k8 ?k9 ?kB ?hl ?_ ?c2 ?c3 ?c4 ?c5; (case kA => exact rfl); (case kF => exact rfl); (case kK => assumption); (case k1 => k_asm); (case k2 => k_asm); (case k3 => k_asm); (case k4 => k_asm); (case k5 => k_asm); (case k6 => k_is); (case k7 => k_is); (case k8 => first | exact room0 hd | ktr_room); (case k9 => exact BindsTo.of_eq rfl); (case c5 => decide); (case kB => exact locs rfl); (case hl => first | exact (rfl : _ = [(_, _)]) | exact (rfl : _ = [(_, _), (_, _)]) | exact (rfl : _ = [(_, _), (_, _), (_, _)]) | exact rfl); (case c2 => exact rfl); (case c3 => exact rfl); (case c4 => exact rfl); k_whole; intro g' L' h' tkE FG' F' N' B' X' T'; (try dsimp only); (try k_lift B'); (try k_fold))
  (change let ev : Env := _; wpAny _ (Around.deeper _ ev) (execs _ ev) _ _ _)
  intro ev
  (change let Ax : Around := _; wpAny _ Ax (execs _ ev) _ _ _)
  intro Ax
  k_steps
  exact retN2 hret (by k_asm) (by k_asm) (by k_mem) (by kcj_all) (by first | assumption | exact lt_nes (by assumption) | exact fn1 (by assumption) | exact fn2 (by assumption) | exact fr1 (by assumption) | exact fr2 (by assumption) | exact fr3 (by assumption)) ⟨_, _, by assumption, rfl⟩
theorem tell_word_keys_3c {w : World} {x : Str} {t : Tok} {news : Led} {k : Key} {c : Nat} (hx : x.length ≤ 4000) (h : isCommand (Lst x) = false) (hs : (splitN (Lst x)).1 = []) (ha : isAngled (Lst x) = false) (hc : codeNamed (Lst x) = none) (hq : Lst x = [94, c]) (hk : modifiedKey [] (Lst x) = some k) :
   TellN w 294 [.str x t] news 80 640 (KListO [k]) := by
  k_with "execs cons" => (k_here; with_reducible refine exs_cons fun _ => ?_; k_fold)
  have q1 : (Str.ofString "").length ≤ 4000 := by decide +kernel
  have q3 : modifiedKey (Lst (Str.ofString "")) (Lst x) = some k := by rw [nil_lst]; exact hk
  have q4 : (Tx (splitN (Lst x)).1 != Str.ofString "") = false := by
    rw [bne_lst, lst_Tx, nil_lst]; simpa using hs
  have q5 : x.length = 2 := by rw [lst_len, hq]; rfl
  have q6 : (Txt.item x 0 == Str.ofString "^") = true := by rw [item_0 hq]; decide +kernel
  have hfill : (PySem.Challenge.rw_np0049_01, hd.heap_39) = (PySem.Challenge.rw_np0049_01, hd.heap_39) := by k_fill; rfl
  clear hfill
  intro mean mg mb dp un gd cn cs a ccd cl outer A₀ base h₀ L m s Q E B F X N T hk hd hu hret
  refine wpAny_call ?_
  k_dflt (refine' code_defN ?k1 ?k2 ?k3 ?k4 ?k5 ?kA ?kF ?kK ?k6 ?k7 ?k8 ?k9 ?kB ?hl ?_ ?c2 ?c3 ?c4 ?c5; (case kA => exact rfl); (case kF => exact rfl); (case kK => assumption); (case k1 => k_asm); (case k2 => k_asm); (case k3 => k_asm); (case k4 => k_asm); (case k5 => k_asm); (case k6 => k_is); (case k7 => k_is); (case k8 => first | exact room0 hd | ktr_room); (case k9 => exact BindsTo.of_eq rfl); (case c5 => decide); (case kB => exact locs rfl); (case hl => first | exact (rfl : _ = [(_, _)]) | exact (rfl : _ = [(_, _), (_, _)]) | exact (rfl : _ = [(_, _), (_, _), (_, _)]) | exact rfl); (case c2 => exact rfl); (case c3 => exact rfl); (case c4 => exact rfl); k_whole; intro g' L' h' tkE FG' F' N' B' X' T'; (try dsimp only); (try k_lift B'); (try k_fold))
  (change let ev : Env := _; wpAny _ (Around.deeper _ ev) (execs _ ev) _ _ _)
  intro ev
  (change let Ax : Around := _; wpAny _ Ax (execs _ ev) _ _ _)
  intro Ax
  k_steps
  all_goals first
    | exact retN2 hret (by k_asm) (by k_asm) (by k_mem) (by kcj_all) (by first | assumption | exact lt_nes (by assumption) | exact fn1 (by assumption) | exact fn2 (by assumption) | exact fr1 (by assumption) | exact fr2 (by assumption) | exact fr3 (by assumption)) ⟨_, _, by assumption, rfl⟩
    | (exfalso; have q9 : (Txt.item x 0 == Str.ofString "^") = false := by assumption; rw [q6] at q9; cases q9)
    | (exfalso; omega)
    | skip
  all_goals trace_state
  all_goals w_report
theorem tell_word_keys_4 {w : World} {x : Str} {t : Tok} {news : Led} (hx : x.length ≤ 4000) (h : isCommand (Lst x) = false) (hs : (splitN (Lst x)).1 = []) (ha : isAngled (Lst x) = false) (hc : codeNamed (Lst x) = none) (hq : ¬ ((Lst x).length = 2 ∧ (Lst x).head? = some 94)) :
   TellN w 294 [.str x t] news 80 640 (KListO (plainKeys (Lst x))) := by
  k_with "execs cons" => (k_here; with_reducible refine exs_cons fun _ => ?_; k_fold)
  have q4 : (Tx (splitN (Lst x)).1 != Str.ofString "") = false := by
    rw [bne_lst, lst_Tx, nil_lst]; simpa using hs
  have q5 : x.length = 2 → (Txt.item x 0 == Str.ofString "^") = false := fun e => by
    rw [lst_len] at e
    match hl : Lst x, e with
    | [a, b], _ =>
      rw [item_0 hl, one_beq (d := 94) (by decide +kernel)]
      refine decide_eq_false fun q => hq ⟨by rw [hl]; rfl, by rw [hl, q]; rfl⟩
  have hfill : (PySem.Challenge.rw_np0049_01, hd.heap_39) = (PySem.Challenge.rw_np0049_01, hd.heap_39) := by k_fill; rfl
  clear hfill
  intro mean mg mb dp un gd cn cs a ccd cl outer A₀ base h₀ L m s Q E B F X N T hk hd hu hret
  refine wpAny_call ?_
  k_dflt (refine' code_defN ?k1 ?k2 ?k3 ?k4 ?k5 ?kA ?kF ?kK ?k6 ?k7 ?k8 ?k9 ?kB ?hl ?_ ?c2 ?c3 ?c4 ?c5; (case kA => exact rfl); (case kF => exact rfl); (case kK => assumption); (case k1 => k_asm); (case k2 => k_asm); (case k3 => k_asm); (case k4 => k_asm); (case k5 => k_asm); (case k6 => k_is); (case k7 => k_is); (case k8 => first | exact room0 hd | ktr_room); (case k9 => exact BindsTo.of_eq rfl); (case c5 => decide); (case kB => exact locs rfl); (case hl => first | exact (rfl : _ = [(_, _)]) | exact (rfl : _ = [(_, _), (_, _)]) | exact (rfl : _ = [(_, _), (_, _), (_, _)]) | exact rfl); (case c2 => exact rfl); (case c3 => exact rfl); (case c4 => exact rfl); k_whole; intro g' L' h' tkE FG' F' N' B' X' T'; (try dsimp only); (try k_lift B'); (try k_fold))
  (change let ev : Env := _; wpAny _ (Around.deeper _ ev) (execs _ ev) _ _ _)
  intro ev
  (change let Ax : Around := _; wpAny _ Ax (execs _ ev) _ _ _)
  intro Ax
  k_steps
  all_goals first
    | exact retN2 hret (by k_asm) (by k_asm) (by k_mem) (by kcj_all) (by first | assumption | exact lt_nes (by assumption) | exact fn1 (by assumption) | exact fn2 (by assumption) | exact fr1 (by assumption) | exact fr2 (by assumption) | exact fr3 (by assumption)) ⟨_, _, by assumption, rfl⟩
    | exact absurd ((q5 (by omega)).symm.trans (by assumption : (Txt.item x 0 == Str.ofString "^") = true)) Bool.false_ne_true
    | (exfalso; omega)
    | skip
  all_goals (have q9 := q5 (by omega))
  all_goals trace_state
  all_goals w_report
theorem tell_word_keys {w : World} {x : Str} {t : Tok} {news : Led} {ks : List Key} (hx : x.length ≤ 4000) (hk : wordKeys (Lst x) = some ks) :
   TellN w 294 [.str x t] news 80 640 (KListO ks) := by
  unfold wordKeys at hk
  split at hk
  · cases hk; exact tell_word_keys_1 hx (by assumption)
  · have h1 : isCommand (Lst x) = false := by simpa using ‹¬ isCommand (Lst x) = true›
    split at hk
    · obtain ⟨k, hm, rfl⟩ := Option.map_eq_some_iff.mp hk
      exact tell_word_keys_2 hx h1 (by assumption) hm
    · have h2 : (splitN (Lst x)).1 = [] := Classical.byContradiction (by assumption)
      split at hk
      · rename_i h3
        obtain ⟨k, hm, rfl⟩ := Option.map_eq_some_iff.mp hk
        cases ha : isAngled (Lst x) with
        | true => exact tell_word_keys_3a hx h1 h2 ha hm
        | false =>
          cases hc : codeNamed (Lst x) with
          | some c => exact tell_word_keys_3b hx h1 h2 ha hc hm
          | none =>
            rw [ha, hc] at h3
            have h4 : (Lst x).length = 2 ∧ (Lst x).head? = some 94 := by simpa using h3
            match hl : Lst x, h4 with
            | [a, b], h4 =>
              have : a = 94 := by simpa using h4.2
              subst this
              exact tell_word_keys_3c hx h1 h2 ha hc hl hm
      · rename_i h3
        cases hk
        have ha : isAngled (Lst x) = false := by
          cases q : isAngled (Lst x) with
          | false => rfl
          | true => exact absurd (.inl q) h3
        have hc : codeNamed (Lst x) = none := by
          cases q : codeNamed (Lst x) with
          | none => rfl
          | some c => exact absurd (.inr (.inl (by rw [q]; rfl))) h3
        exact tell_word_keys_4 hx h1 h2 ha hc fun q => h3 (.inr (.inr q))
end
-- KbN
section
theorem lines_free : ∀ (p l r : List Nat), 10 ∉ p → linesOf l (p ++ r) = linesOf (l ++ p) r
  | [], l, r, _ => by simp
  | c :: p, l, r, h => by
    have h1 : ¬ c = 10 := fun e => h (by rw [e]; exact .head _)
    show linesOf l (c :: (p ++ r)) = _
    rw [linesOf, if_neg h1, lines_free p (l ++ [c]) r fun q => h (.tail _ q), List.append_assoc]
    rfl
theorem lines_join : ∀ (ps : List (List Nat)), ps ≠ [] → (∀ p ∈ ps, 10 ∉ p) → linesOf [] (List.intersperse [10] ps).flatten = ps
  | [], h, _ => absurd rfl h
  | [p], _, h => by
    have := lines_free p [] [] (h p (.head _))
    simp only [List.append_nil, List.nil_append] at this
    simp [this, linesOf]
  | p :: q :: r, _, h => by
    simp only [List.intersperse_cons_cons, List.flatten_cons]
    rw [lines_free p [] _ (h p (.head _))]
    show linesOf ([] ++ p) (10 :: (List.intersperse [10] (q :: r)).flatten) = _
    rw [linesOf, if_pos rfl, lines_join (q :: r) (by simp) fun a ha => h a (.tail _ ha)]
    rfl
theorem nl_lst : Lst (Str.ofString "\n") = [10] := by decide +kernel
theorem nl_eq : Str.ofString "\n" = ⟨#[10]⟩ := by decide +kernel
theorem split_lines (x : Str) : (Txt.split x (Str.ofString "\n")).map Lst = linesOf [] (Lst x) := by
  have hj : Str.join (Str.ofString "\n") (Txt.split x (Str.ofString "\n")) = x := StrLaws.join_split x _
  have h2 : Lst x = (List.intersperse [10] ((Txt.split x (Str.ofString "\n")).map Lst)).flatten := by
    rw [← nl_lst, ← lst_join, hj]
  rw [h2, lines_join]
  · intro e
    have := split_pos x (Str.ofString "\n")
    have e' := congrArg List.length e
    rw [List.length_map] at e'
    simp at e'
    rw [e'] at this
    simp at this
  · intro p hp
    obtain ⟨y, hy, rfl⟩ := List.mem_map.mp hp
    rw [nl_eq] at hy
    exact StrLaws.split_free x 10 y hy
theorem blank_len : ∀ (l w : List Nat), (blankGo w l).length ≤ l.length + 1
  | [], w => by
    show (if w = [] then [] else [w] : List (List Nat)).length ≤ 1
    split <;> simp
  | c :: r, w => by
    rw [blankGo]
    have h1 := blank_len r []
    have h2 := blank_len r (w ++ [c])
    repeat' split
    all_goals (simp only [List.length_cons] at *; omega)
theorem strs_at {vs : List Value} {ss : List Str} (h : StrsAre vs ss) : ∀ {i : Nat} {v : Value}, vs[i]? = some v → ∃ s t, v = .str s t ∧ ss[i]? = some s := by
  induction h with
  | nil => intro i v e; simp at e
  | cons y t _ ih =>
    intro i v e
    cases i with
    | zero => exact ⟨y, t, by simpa using e.symm, rfl⟩
    | succ i => exact ih (by simpa using e)
noncomputable def wordsAt (ls : List (List Nat)) (i : Nat) : List (List Nat) := (ls.take i).flatMap fun l => (blankGo [] l).takeWhile fun w => !isRemark w
theorem wordsAt_step {ls : List (List Nat)} {i : Nat} {l : List Nat} (h : ls[i]? = some l) : wordsAt ls (i + 1) = wordsAt ls i ++ (blankGo [] l).takeWhile fun w => !isRemark w := by
  unfold wordsAt
  rw [List.take_add_one, h]
  simp
theorem wordsAt_len {ls : List (List Nat)} (hl : ∀ l ∈ ls, l.length ≤ 4000) : ∀ i, (wordsAt ls i).length ≤ i * 4001 := by
  intro i
  induction i with
  | zero => simp [wordsAt]
  | succ i ih =>
    cases h : ls[i]? with
    | none =>
      have : wordsAt ls (i + 1) = wordsAt ls i := by unfold wordsAt; rw [List.take_add_one, h]; simp
      rw [this]; omega
    | some l =>
      rw [wordsAt_step h, List.length_append]
      have h1 := (List.takeWhile_sublist (l := blankGo [] l) fun w => !isRemark w).length_le
      have h2 := blank_len l []
      have h3 := hl l (List.mem_of_getElem? h)
      omega
theorem remark_in {x : Str} : ([Str.ofString ";;", Str.ofString "REM"].any (· == x)) = isRemark (Lst x) := by
  unfold isRemark
  simp only [List.any_cons, List.any_nil, Bool.or_false]
  rw [beq_lst, beq_lst, show Lst (Str.ofString ";;") = [59, 59] from by decide +kernel, show Lst (Str.ofString "REM") = [82, 69, 77] from by decide +kernel, Bool.beq_comm (a := [59, 59]), Bool.beq_comm (a := [82, 69, 77])]
theorem tw_all {l : List (List Nat)} {p : List Nat → Bool} (h : ∀ (j : Nat) (a : List Nat), j < l.length → l[j]? = some a → p a = true) : l.takeWhile p = l := by
  induction l with
  | nil => rfl
  | cons a r ih =>
    rw [List.takeWhile_cons, h 0 a (by simp) rfl]
    simp only [if_true]
    rw [ih fun j b hj hb => h (j + 1) b (by simpa using hj) (by simpa using hb)]
theorem tw_stop {l : List (List Nat)} {p : List Nat → Bool} {j : Nat} {a : List Nat} (ha : l[j]? = some a) (hp : p a = false) (h : ∀ (k : Nat) (b : List Nat), k < j → l[k]? = some b → p b = true) : l.takeWhile p = l.take j := by
  induction l generalizing j with
  | nil => simp at ha
  | cons b r ih =>
    cases j with
    | zero =>
      have : b = a := by simpa using ha
      subst this
      rw [List.takeWhile_cons, hp]; rfl
    | succ j =>
      rw [List.takeWhile_cons, h 0 b (by omega) rfl]
      simp only [if_true, List.take_succ_cons]
      rw [ih (by simpa using ha) fun k c hk hc => h (k + 1) c (by omega) (by simpa using hc)]
theorem take_stepL {α : Type} {l : List α} {i : Nat} {c : α} (h : l[i]? = some c) : l.take (i + 1) = l.take i ++ [c] := by rw [List.take_add_one, h]; rfl
theorem words_off {B S D : Addr} {bo so do1 do2 : Obj} {news own own₂ : Led} (lB : ∀ p ∈ (S, so) :: (D, do1) :: (news ++ own), p.1 ≠ B) (lS : ∀ p ∈ (D, do2) :: news, p.1 < S) (l1 : ∀ p ∈ news, p.1 < D)
    (hoff : OwnOff own (((S, so) :: (D, do1) :: news).map (·.1))) (hoff₂ : OwnOff own₂ (((B, bo) :: (S, so) :: (D, do1) :: (news ++ own)).map (·.1))) : ∀ p ∈ (B, bo) :: (S, so) :: (news ++ own ++ own₂), p.1 ≠ D := fun p hp => by
  rcases List.mem_cons.mp hp with rfl | hp
  · exact fun e => lB (D, do1) (.tail _ (.head _)) e.symm
  · rcases List.mem_cons.mp hp with rfl | hp
    · exact Nat.ne_of_gt (lS (D, do2) (.head _))
    · rcases List.mem_append.mp hp with hp | hp
      · rcases List.mem_append.mp hp with hp | hp
        · exact Nat.ne_of_lt (l1 p hp)
        · exact hoff p hp D (by simp)
      · exact hoff₂ p hp D (by simp)
def wordsJ (S : Addr) (so : Obj) (D : Addr) (news : Led) (ls : List (List Nat)) (i : Nat) (m : Str → Option Value) (nx : Led) : Prop :=
  ∃ vs n, nx = (S, so) :: (D, listOf vs.toArray n) :: news ∧ m (Str.ofString "found") = some (.ref D) ∧ StrsAre vs ((wordsAt ls i).map Tx)
def wordsK (B : Addr) (bo : Obj) (S : Addr) (so : Obj) (D : Addr) (news : Led) (ws bw : List (List Nat)) (j : Nat) (m : Str → Option Value) (nx : Led) : Prop :=
  ∃ vs n, nx = (B, bo) :: (S, so) :: (D, listOf vs.toArray n) :: news ∧ m (Str.ofString "found") = some (.ref D) ∧ StrsAre vs ((ws ++ bw.take j).map Tx) ∧ ∀ (k : Nat) (b : List Nat), k < j → bw[k]? = some b → isRemark b = false
theorem wordsJ_keep (S : Addr) (so : Obj) (D : Addr) (news : Led) (ls : List (List Nat)) : ∀ i m nx, wordsJ S so D news ls i m nx → (S, so) ∈ nx := by
  rintro i m nx ⟨vs, n, rfl, _⟩; exact .head _
theorem wordsK_keep (B : Addr) (bo : Obj) (S : Addr) (so : Obj) (D : Addr) (news : Led) (ws bw : List (List Nat)) : ∀ i m nx, wordsK B bo S so D news ws bw i m nx → (B, bo) ∈ nx := by
  rintro i m nx ⟨vs, n, rfl, _⟩; exact .head _
section

theorem tell_words_of {w : World} {x : Str} {t : Tok} {news : Led} (hx : x.length ≤ 4000) :
   TellN w 219 [.str x t] news 8 64 (SListO (wordsOf (Lst x))) := by
  k_with_none
  k_with "execs cons" => (k_here; with_reducible refine exs_cons fun _ => ?_; k_fold)
  k_with "call builtin:list.append" => (k_here; with_reducible refine held_ ?_)
  k_with "compareOp In str ref" => (k_here; with_reducible refine held_ ?_)
  k_with "call builtin:str.split" => (k_here; with_reducible refine held_ ?_)
  k_with "call ref" => (k_here; with_reducible refine held_ ?_)
  have hfill : (PySem.Challenge.rw_np0049_01, hd.heap_39) = (PySem.Challenge.rw_np0049_01, hd.heap_39) := by k_fill; rfl
  clear hfill
  intro mean mg mb dp un gd cn cs a ccd cl outer A₀ base h₀ L m s Q E B F X N T hk hd hu hret
  refine wpAny_call ?_
  k_dflt (refine' code_defN ?k1 ?k2 ?k3 ?k4 ?k5 ?kA ?kF ?kK ?k6 ?k7 ?k8 ?k9 ?kB ?hl ?_ ?c2 ?c3 ?c4 ?c5; (case kA => exact rfl); (case kF => exact rfl); (case kK => assumption); (case k1 => k_asm); (case k2 => k_asm); (case k3 => k_asm); (case k4 => k_asm); (case k5 => k_asm); (case k6 => k_is); (case k7 => k_is); (case k8 => first | exact room0 hd | ktr_room); (case k9 => exact BindsTo.of_eq rfl); (case c5 => decide); (case kB => exact locs rfl); (case hl => first | exact (rfl : _ = [(_, _)]) | exact (rfl : _ = [(_, _), (_, _)]) | exact (rfl : _ = [(_, _), (_, _), (_, _)]) | exact rfl); (case c2 => exact rfl); (case c3 => exact rfl); (case c4 => exact rfl); k_whole; intro g' L' h' tkE FG' F' N' B' X' T'; (try dsimp only); (try k_lift B'); (try k_fold))
  (change let ev : Env := _; wpAny _ (Around.deeper _ ev) (execs _ ev) _ _ _)
  intro ev
  (change let Ax : Around := _; wpAny _ Ax (execs _ ev) _ _ _)
  intro Ax
  k_steps
  refine heldI (splitD (by k_asm) (by k_asm) (by decide +kernel) (by omega) fun S vS hS kS SA hle FS NS lS => ?_)
  have hls := split_lines x
  have hll : ∀ l ∈ linesOf [] (Lst x), l.length ≤ 4000 := fun l hl => by
    rw [← hls] at hl
    obtain ⟨y, hy, rfl⟩ := List.mem_map.mp hl
    have := hle y hy
    rw [lst_len y] at this
    omega
  have hln : (linesOf [] (Lst x)).length ≤ 4002 := by
    rw [← hls, List.length_map]
    have := split_le x (Str.ofString "\n")
    omega
  k_steps
  refine heldI (iter_listN (wordsJ S _ _ news (linesOf [] (Lst x))) (by rfl) (.head _) (by k_asm) (by k_asm) (wordsJ_keep S _ _ news _) ⟨[], 0, rfl, rfl, .nil⟩ ?_ ?_)
  · rintro i v m₁ nx h tk own hv hadr hoff ⟨vs, n, rfl, hm, hV⟩ F₁ N₁
    obtain ⟨m', rfl⟩ := map1 hm
    obtain ⟨l, tl, rfl, hl⟩ := strs_at SA hv
    have hl' : (linesOf [] (Lst x))[i]? = some (Lst l) := by rw [← hls, List.getElem?_map, hl]; rfl
    have hlen : l.length ≤ 4000 := by rw [lst_len]; exact hll _ (List.mem_of_getElem? hl')
    k_steps
    refine heldI (TellN.use2 (tell_blank_words hlen) (by k_asm) (by k_asm) (by k_asm) (by k_asm) (by k_asm) rfl (by first | exact room1 hd rfl | ktr_room) (by first | exact room1 hu rfl | ktr_units) ?_)
    intro B vB nB hB tkB FB NB lB KB
    k_steps
    refine heldI (iter_listN (news := (B, listOf vB.toArray nB) :: (S, _) :: (_, listOf vs.toArray n) :: (news ++ own)) (wordsK B _ S _ _ (news ++ own) (wordsAt (linesOf [] (Lst x)) i) (blankGo [] (Lst l))) (by rfl) (.head _) (by k_asm) (cb_drop (by k_asm) (by kstt_sub)) (wordsK_keep B _ S _ _ _ _ _) ⟨vs, n, rfl, rfl, by simpa using hV, fun k b hk => absurd hk (Nat.not_lt_zero _)⟩ ?_ ?_)
    · rintro j u m₂ nx₂ h₂ tk₂ own₂ hu hadr₂ hoff₂ ⟨vs₂, n₂, rfl, hm₂, hV₂, hno⟩ F₂ N₂
      obtain ⟨m'', rfl⟩ := map1 hm₂
      obtain ⟨wd, tw, rfl, hw⟩ := strs_at KB hu
      k_steps
      refine heldI (in_tuple_strs (News.isTup (by k_asm) (by k_mem)) (.cons _ _ (.cons _ _ .nil)) ?_)
      rw [remark_in]
      have hw' : (blankGo [] (Lst l))[j]? = some (Lst wd) := by
        rw [List.getElem?_map] at hw
        obtain ⟨q, hq, e⟩ := Option.map_eq_some_iff.mp hw
        rw [hq, ← e, lst_Tx]
      cases hr : isRemark (Lst wd) with
      | true =>
        k_steps
        refine InvEndN.intro (by k_asm) (by k_asm) ⟨vs₂, n₂, rfl, by rfl, ?_⟩ rfl (by kstt_sub) (by kstt_sub)
        rw [wordsAt_step hl', tw_stop hw' (by rw [hr]; rfl) fun k b hk hb => by rw [hno k b hk hb]; rfl]
        exact hV₂
      | false =>
        k_steps
        refine heldI (appendD (rest := (B, listOf vB.toArray nB) :: (S, listOf vS.toArray 0) :: (news ++ own ++ own₂)) (by k_asm) (by k_asm) (by k_mem) (by kstt_sub) (words_off lB lS (by assumption) hoff hoff₂) ?_ fun h1 F1 N1 => ?_)
        · have h1 := wordsAt_len hll i
          have h2 : i ≤ 4001 := by
            have := (List.getElem?_eq_some_iff.mp hl').1
            omega
          have h3 := hV₂.length
          have h4 := blank_len (Lst l) []
          rw [List.length_map, List.length_append, List.length_take] at h3
          rw [lst_len] at hlen
          omega
        k_steps
        refine InvEndN.intro (by k_asm) (by k_asm) ⟨vs₂ ++ [.str wd tw], n₂ + 1, rfl, by rfl, ?_, fun k b hk hb => ?_⟩ rfl (by kstt_sub) (by kstt_sub)
        · rw [take_stepL hw', ← List.append_assoc, List.map_append]
          exact hV₂.append' (by rw [show [Lst wd].map Tx = [wd] from by rw [List.map_singleton, T_lst]]; exact .cons _ _ .nil)
        · rcases Nat.lt_succ_iff_lt_or_eq.mp hk with h1 | h1
          · exact hno k b h1 hb
          · subst h1; rw [hw'] at hb; cases hb; exact hr
    · rintro m₂ nx₂ h₂ tk₂ ⟨vs₂, n₂, rfl, hm₂, hV₂, hno⟩ F₂ N₂
      obtain ⟨m'', rfl⟩ := map1 hm₂
      have hvb : vB.length = (blankGo [] (Lst l)).length := by rw [KB.length, List.length_map]
      rw [hvb] at hV₂ hno
      k_steps
      refine InvEndN.intro (by k_asm) (by k_asm) ⟨vs₂, n₂, rfl, by rfl, ?_⟩ rfl (by kstt_sub) (by kstt_sub)
      rw [wordsAt_step hl', tw_all fun k b hk hb => by rw [hno k b hk hb]; rfl]
      rw [List.take_length] at hV₂
      exact hV₂
  · rintro m₁ nx h tk ⟨vs, n, rfl, hm, hV⟩ F₁ N₁
    obtain ⟨m', rfl⟩ := map1 hm
    have hvs : vS.length = (linesOf [] (Lst x)).length := by rw [SA.length, ← hls, List.length_map]
    rw [hvs] at hV
    k_steps
    refine retN2 hret (by k_asm) (by k_asm) (by k_mem) (by kcj_all) (by first | assumption | exact lt_nes (by assumption) | exact fn1 (by assumption) | exact fn2 (by assumption) | exact fr1 (by assumption) | exact fr2 (by assumption) | exact fr3 (by assumption)) ⟨vs, n, ?_, rfl⟩
    unfold wordsAt at hV
    rw [List.take_length] at hV
    exact hV
end
end
-- KbP
section
/-- a tuple of keys -/
def KTupO (ks : List Key) (o : Obj) : Prop := ∃ vs n, KeysAre vs ks ∧ o = { cls := .type "tuple", data := .seq vs.toArray n }
/-- what a word of a text of keys is read as -/
def WordRel (w : List Nat) (out : List Key) : Prop :=
  ∃ n r kk, timesOf w = some (n, r) ∧ digitsAt w ≤ 1 ∧ wordKeys r = some kk ∧ out = repeatKeys n kk ∧ n ≤ 9 ∧ kk.length ≤ 1000 ∧ w.length ≤ 4000 ∧ r.length ≤ 4000
def Reads (ws : List (List Nat)) (outs : List (List Key)) : Prop := ∀ (i : Nat) (w : List Nat), ws[i]? = some w → ∃ out, outs[i]? = some out ∧ WordRel w out
theorem flat_take_len (outs : List (List Key)) (i : Nat) : (outs.take i).flatten.length ≤ outs.flatten.length := by
  have : outs.flatten = (outs.take i).flatten ++ (outs.drop i).flatten := by rw [← List.flatten_append, List.take_append_drop]
  rw [this, List.length_append]; omega
theorem keys_rep {vs : List Value} {ks : List Key} (h : KeysAre vs ks) : ∀ n : Nat, KeysAre (List.replicate n vs).flatten (repeatKeys n ks)
  | 0 => .nil
  | n + 1 => by
    unfold repeatKeys
    rw [List.replicate_succ, List.flatten_cons, List.replicate_succ, List.flatten_cons]
    exact h.append (keys_rep h n)
def kbdJ (W : Addr) (wo : Obj) (D : Addr) (news : Led) (outs : List (List Key)) (i : Nat) (m : Str → Option Value) (nx : Led) : Prop :=
  ∃ vs n, nx = (W, wo) :: (D, listOf vs.toArray n) :: news ∧ m (Str.ofString "found") = some (.ref D) ∧ KeysAre vs (outs.take i).flatten
theorem kbdJ_keep (W : Addr) (wo : Obj) (D : Addr) (news : Led) (outs : List (List Key)) : ∀ i m nx, kbdJ W wo D news outs i m nx → (W, wo) ∈ nx := by
  rintro i m nx ⟨vs, n, rfl, _⟩; exact .head _
theorem kbd_off {W D : Addr} {wo do1 : Obj} {news own : Led} (lW : ∀ p ∈ (D, do1) :: news, p.1 ≠ W) (l1 : ∀ p ∈ news, p.1 < D) (hoff : OwnOff own (((W, wo) :: (D, do1) :: news).map (·.1))) : ∀ p ∈ (W, wo) :: (news ++ own), p.1 ≠ D := fun p hp => by
  rcases List.mem_cons.mp hp with rfl | hp
  · exact fun e => lW (D, do1) (.head _) e.symm
  · rcases List.mem_append.mp hp with hp | hp
    · exact Nat.ne_of_lt (l1 p hp)
    · exact hoff p hp D (by simp)
section

theorem tell_kbd {w : World} {x : Str} {t : Tok} {news : Led} {outs : List (List Key)} (hx : x.length ≤ 4000) (hr : Reads (wordsOf (Lst x)) outs) (hlen : (wordsOf (Lst x)).length = outs.length) (hout : outs.flatten.length ≤ 16000) :
   TellN w 301 [.str x t] news 100 800 (KTupO outs.flatten) := by
  k_with_none
  k_with "execs cons" => (k_here; with_reducible refine exs_cons fun _ => ?_; k_fold)
  k_with "call builtin:list.extend" => (k_here; with_reducible refine held_ ?_)
  k_with "call ref" => (k_here; with_reducible refine held_ ?_)
  k_with "binaryOp Mult ref int" => (k_here; with_reducible refine held_ ?_)
  k_with "call type:tuple" => (k_here; with_reducible refine held_ ?_)
  have hfill : (PySem.Challenge.rw_np0049_01, hd.heap_39) = (PySem.Challenge.rw_np0049_01, hd.heap_39) := by k_fill; rfl
  clear hfill
  intro mean mg mb dp un gd cn cs a ccd cl outer A₀ base h₀ L m s Q E B F X N T hk hd hu hret
  refine wpAny_call ?_
  k_dflt (refine' code_defN ?k1 ?k2 ?k3 ?k4 ?k5 ?kA ?kF ?kK ?k6 ?k7 ?k8 ?k9 ?kB ?hl ?_ ?c2 ?c3 ?c4 ?c5; (case kA => exact rfl); (case kF => exact rfl); (case kK => assumption); (case k1 => k_asm); (case k2 => k_asm); (case k3 => k_asm); (case k4 => k_asm); (case k5 => k_asm); (case k6 => k_is); (case k7 => k_is); (case k8 => first | exact room0 hd | ktr_room); (case k9 => exact BindsTo.of_eq rfl); (case c5 => decide); (case kB => exact locs rfl); (case hl => first | exact (rfl : _ = [(_, _)]) | exact (rfl : _ = [(_, _), (_, _)]) | exact (rfl : _ = [(_, _), (_, _), (_, _)]) | exact rfl); (case c2 => exact rfl); (case c3 => exact rfl); (case c4 => exact rfl); k_whole; intro g' L' h' tkE FG' F' N' B' X' T'; (try dsimp only); (try k_lift B'); (try k_fold))
  (change let ev : Env := _; wpAny _ (Around.deeper _ ev) (execs _ ev) _ _ _)
  intro ev
  (change let Ax : Around := _; wpAny _ Ax (execs _ ev) _ _ _)
  intro Ax
  k_steps
  refine heldI (TellN.use2 (tell_words_of hx) (by k_asm) (by k_asm) (by k_asm) (by k_asm) (by k_asm) rfl (by first | exact room1 hd rfl | ktr_room) (by first | exact room1 hu rfl | ktr_units) ?_)
  intro W vW nW hW tkW FW NW lW KW
  k_steps
  refine heldI (iter_listN (kbdJ W _ _ news outs) (by rfl) (.head _) (by k_asm) (by k_asm) (kbdJ_keep W _ _ _ _) ⟨[], 0, rfl, rfl, .nil⟩ ?_ ?_)
  · rintro i v m₁ nx h tk own hv hadr hoff ⟨vs, n, rfl, hm, hV⟩ F₁ N₁
    obtain ⟨m', rfl⟩ := map1 hm
    obtain ⟨s, ts, rfl, hs⟩ := strs_at KW hv
    have hs' : (wordsOf (Lst x))[i]? = some (Lst s) := by
      rw [List.getElem?_map] at hs
      obtain ⟨q, hq, e⟩ := Option.map_eq_some_iff.mp hs
      rw [hq, ← e, lst_Tx]
    obtain ⟨out, ho, cn, r, kk, h1, h2, h3, h4, h5, h6, h7, h8⟩ := hr i _ hs'
    k_steps
    refine heldI (TellN.use1 (tell_times_of (by rw [lst_len]; exact h7) h2 h1) (by k_asm) (by k_asm) (by k_asm) (by k_asm) (by k_asm) rfl (by first | exact room1 hd rfl | ktr_room) (by first | exact room1 hu rfl | ktr_units) ?_)
    intro T tt ut hT tkT FT NT lT
    have hn : (cn : Int) ≤ 9 := by omega
    have hn0 : 0 ≤ (cn : Int) := by omega
    k_steps
    refine heldI (TellN.use2 (tell_word_keys (x := Tx r) (by rw [T_len]; exact h8) (by rw [lst_Tx]; exact h3)) (by k_asm) (by k_asm) (by k_asm) (by k_asm) (by k_asm) rfl (by first | exact room1 hd rfl | ktr_room) (by first | exact room1 hu rfl | ktr_units) ?_)
    intro B vB nB hB tkB FB NB lB KB
    have hvB : vB.length ≤ 1000 := by rw [KB.len]; exact h6
    have hcn : ((cn : Int)).toNat = cn := by omega
    k_steps
    refine heldI (mul_listD (by k_asm) (by k_asm) (by k_mem) (by omega) (by omega) ?_ fun D3 hD3 F3 N3 l3 => ?_)
    · rw [hcn]; exact Nat.le_trans (Nat.mul_le_mul hvB h5) (by decide)
    rw [hcn] at N3
    have hK := keys_rep KB cn
    rw [← h4] at hK
    have hstep : (outs.take (i + 1)).flatten = (outs.take i).flatten ++ out := by rw [List.take_add_one, ho]; simp
    have hlen2 := flat_take_len outs (i + 1)
    rw [hstep, List.length_append, ← hV.len, ← hK.len] at hlen2
    k_steps
    refine heldI (extendD (rest := (W, listOf vW.toArray nW) :: (news ++ own)) (by k_asm) (by k_asm) (by k_mem) (by k_mem) (by kstt_sub) (kbd_off lW (by assumption) hoff) (by omega) fun n' h4' F4 N4 => ?_)
    k_steps
    refine InvEndN.intro (by k_asm) (by k_asm) ⟨vs ++ (List.replicate cn vB).flatten, n', rfl, by rfl, ?_⟩ rfl (by kstt_sub) (by kstt_sub)
    rw [hstep]
    exact hV.append hK
  · rintro m₁ nx h tk ⟨vs, n, rfl, hm, hV⟩ F₁ N₁
    obtain ⟨m', rfl⟩ := map1 hm
    have hl : vW.length = outs.length := by rw [KW.length, List.length_map, hlen]
    rw [hl, List.take_length] at hV
    k_steps
    refine heldI (kde_tupleOf (by k_asm) (by k_asm) (News.isList (by k_asm) (by k_mem)) (by rw [List.size_toArray, hV.len]; omega) rfl fun D5 h5 F5 N5 l5 => ?_)
    k_steps
    exact retN2 hret (by k_asm) (by k_asm) (by k_mem) (by kcj_all) (fun p hp => Nat.ne_of_lt (l5 p (by simp [hp]))) ⟨_, 0, hV, rfl⟩
end
end
-- KbSc
section
noncomputable def lawSeps : List (List Nat) := [[32], [32, 32], [10], [9], [32, 59, 59, 32, 67, 45, 120, 32, 97, 10], [32, 82, 69, 77, 32, 98, 10]]
/-- words set apart -/
def Spread (ws : List (List Nat)) (out : List Nat) : Prop := ∃ seps : List (List Nat), seps.length = ws.length ∧ (∀ s ∈ seps, s ∈ lawSeps) ∧ out = (List.zipWith (· ++ ·) ws seps).flatten
theorem Spread.step {ws : List (List Nat)} {out w s : List Nat} {i : Nat} (h : Spread (ws.take i) out) (hw : ws[i]? = some w) (hs : s ∈ lawSeps) : Spread (ws.take (i + 1)) (out ++ w ++ s) := by
  obtain ⟨seps, h1, h2, rfl⟩ := h
  refine ⟨seps ++ [s], ?_, ?_, ?_⟩
  · rw [List.take_add_one, hw]; simp [h1]
  · intro a ha
    rcases List.mem_append.mp ha with ha | ha
    · exact h2 a ha
    · rw [List.mem_singleton.mp ha]; exact hs
  · rw [List.take_add_one, hw, show (some w).toList = [w] from rfl, List.zipWith_append h1.symm]
    simp
/-- a draw that tells a text -/
def spreadJ (D S : Addr) (news : Led) (k : Int) (ws : List (List Nat)) (i : Nat) (m : Str → Option Value) (nx : Led) : Prop :=
  ∃ (k' : Int) (t' : Tok) (n' : Nat) (out : List Nat) (t : Tok), nx = (D, deckO S k' t' n') :: news ∧ k ≤ k' ∧ k' ≤ k + i ∧ m (Str.ofString "deck") = some (.ref D) ∧ m (Str.ofString "text") = some (.str (Tx out) t) ∧ Spread (ws.take i) out ∧ out.length ≤ 200 * i
theorem spreadJ_keep {D S : Addr} {news : Led} {k : Int} {ws : List (List Nat)} {p : Addr × Obj} (h : p ∈ news) : ∀ i m nx, spreadJ D S news k ws i m nx → p ∈ nx := by
  rintro i m nx ⟨_, _, _, _, _, rfl, _⟩; exact .tail _ h
theorem law_sep {r : Value} {u0 u1 u2 u3 u4 u5 : Tok} (h : r ∈ [Value.str (Str.ofString " ") u0, Value.str (Str.ofString "  ") u1, Value.str (Str.ofString "\n") u2, Value.str (Str.ofString "\t") u3, Value.str (Str.ofString " ;; C-x a\n") u4, Value.str (Str.ofString " REM b\n") u5]) : ∃ n t, r = .str (Tx n) t ∧ n ∈ lawSeps ∧ (Tx n).length ≤ 20 := by
  simp only [List.mem_cons, List.not_mem_nil, or_false] at h
  rcases h with rfl | rfl | rfl | rfl | rfl | rfl
  · exact ⟨[32], _, by rw [show Str.ofString " " = Tx [32] from by decide +kernel], by decide, by decide⟩
  · exact ⟨[32, 32], _, by rw [show Str.ofString "  " = Tx [32, 32] from by decide +kernel], by decide, by decide⟩
  · exact ⟨[10], _, by rw [show Str.ofString "\n" = Tx [10] from by decide +kernel], by decide, by decide⟩
  · exact ⟨[9], _, by rw [show Str.ofString "\t" = Tx [9] from by decide +kernel], by decide, by decide⟩
  · exact ⟨[32, 59, 59, 32, 67, 45, 120, 32, 97, 10], _, by rw [show Str.ofString " ;; C-x a\n" = Tx [32, 59, 59, 32, 67, 45, 120, 32, 97, 10] from by decide +kernel], by decide, by decide⟩
  · exact ⟨[32, 82, 69, 77, 32, 98, 10], _, by rw [show Str.ofString " REM b\n" = Tx [32, 82, 69, 77, 32, 98, 10] from by decide +kernel], by decide, by decide⟩
theorem pickS {w : World} {D S A : Addr} {k : Int} {t0 : Tok} {n0 nA : Nat} {vA : List Value} {news own : Led}
  {mean : ExcName → Option Value} {mg mb : Str → Option Value} {dp un : Nat} {gd : Option (List Code)} {cn : Str} {cs : Scope} {a : Addr} {ccd : Value} {cl : List (Str × Addr)} {outer : List Env} {A₀ : Around} {base h₀ : Heap} {L : Addr} {m : Str → Option Value} {s : Shared} {Q E : Value → Shared → Prop}
  (N : News h₀ L s.heap ((A, listOf vA.toArray nA) :: ((D, deckO S k t0 n0) :: news ++ own))) (hlt : ∀ p ∈ (D, deckO S k t0 n0) :: news ++ own, p.1 < A) (hk0 : 0 ≤ k) (hk1 : k ≤ 1000) (hS : ScriptAt S news) (hne : 0 < vA.length) (hlen : vA.length ≤ 100) (hoff : ∀ p ∈ news, p.1 ≠ D) (hoffo : ∀ p ∈ own, p.1 ≠ D)
  (B : Below A₀ base outer h₀) (F : Fr h₀ L s.heap m) (X : (hd.heap_39 w.params).In h₀) (T : Top hd.view_39 LS mean mg mb h₀) (hk : cs.kind = .function) (hd : dp + 4 < recursionLimit) (hu : un + 32 < cLine)
  (ret : ∀ r k' t' n' h' tk', Fr h₀ L h' m → News h₀ L h' ((D, deckO S k' t' n') :: (news ++ own)) → k ≤ k' → k' ≤ k + 1 → r ∈ vA → Q r { s with heap := h', toks := tk' }) :
    wpAny (model PySem.Challenge.pw_np0049_01 w) (ktrTop dp un gd cn cs L a ccd cl outer) (call (.ref 331) [.ref D, .ref A]) Q E s := by
  refine TellD.use (tell_pick (t0 := t0) (n0 := n0) (news := (A, listOf vA.toArray nA) :: (news ++ own)) hk0 hk1 (hS.mono fun p hp => .tail _ (List.mem_append_left _ hp)) (.head _) hne hlen fun p hp => ?_) B F X (fun p hp => N p ?_) T hk hd hu ?_
  · rcases List.mem_cons.mp hp with rfl | hp
    · exact Nat.ne_of_gt (hlt (D, deckO S k t0 n0) (.head _))
    · rcases List.mem_append.mp hp with hp | hp
      · exact hoff p hp
      · exact hoffo p hp
  · simp only [List.mem_cons, List.cons_append, List.mem_append] at hp ⊢
    rcases hp with h | h | h | h
    · exact .inr (.inl h)
    · exact .inl h
    · exact .inr (.inr (.inl h))
    · exact .inr (.inr (.inr h))
  · intro r k' t' n' h' tk' F' N' h1 h2 h3
    exact ret r k' t' n' h' tk' F' (fun p hp => N' p (by
      rcases List.mem_cons.mp hp with rfl | hp
      · exact .head _
      · exact .tail _ (.tail _ hp))) h1 h2 h3
section

theorem tell_law_spread {w : World} {D S W : Addr} {k : Int} {t0 : Tok} {n0 nW : Nat} {vW : List Value} {ws : List (List Nat)} {news : Led} (hk0 : 0 ≤ k) (hk1 : k ≤ 900) (hS : ScriptAt S news) (hoff : ∀ p ∈ news, p.1 ≠ D) (hW : (W, listOf vW.toArray nW) ∈ news) (hKW : StrsAre vW (ws.map Tx)) (hl : ws.length ≤ 10) (hwl : ∀ a ∈ ws, a.length ≤ 100) :
   TellD w 357 [.ref D, .ref W] D S k 10 (deckO S k t0 n0) news 12 96 (fun r => ∃ out t, r = .str (Tx out) t ∧ Spread ws out ∧ out.length ≤ 2000) := by
  k_with_none
  k_with "execs cons" => (k_here; with_reducible refine exs_cons fun _ => ?_; k_fold)
  k_with "call ref" => (k_here; with_reducible refine held_ ?_)
  have hfill : (PySem.Challenge.rw_np0049_01, hd.heap_39) = (PySem.Challenge.rw_np0049_01, hd.heap_39) := by k_fill; rfl
  clear hfill
  intro mean mg mb dp un gd cn cs a ccd cl outer A₀ base h₀ L m s Q E B F X N T hk hd hu hret
  refine wpAny_call ?_
  k_dflt (refine' code_defN ?k1 ?k2 ?k3 ?k4 ?k5 ?kA ?kF ?kK ?k6 ?k7 ?k8 ?k9 ?kB ?hl ?_ ?c2 ?c3 ?c4 ?c5; (case kA => exact rfl); (case kF => exact rfl); (case kK => assumption); (case k1 => k_asm); (case k2 => k_asm); (case k3 => k_asm); (case k4 => k_asm); (case k5 => k_asm); (case k6 => k_is); (case k7 => k_is); (case k8 => first | exact room0 hd | ktr_room); (case k9 => exact BindsTo.of_eq rfl); (case c5 => decide); (case kB => exact locs rfl); (case hl => first | exact (rfl : _ = [(_, _)]) | exact (rfl : _ = [(_, _), (_, _)]) | exact (rfl : _ = [(_, _), (_, _), (_, _)]) | exact rfl); (case c2 => exact rfl); (case c3 => exact rfl); (case c4 => exact rfl); k_whole; intro g' L' h' tkE FG' F' N' B' X' T'; (try dsimp only); (try k_lift B'); (try k_fold))
  (change let ev : Env := _; wpAny _ (Around.deeper _ ev) (execs _ ev) _ _ _)
  intro ev
  (change let Ax : Around := _; wpAny _ Ax (execs _ ev) _ _ _)
  intro Ax
  k_steps
  refine heldI (iter_listN (spreadJ D S news k ws) (by rfl) (.tail _ hW) (by k_asm) (by k_asm) (spreadJ_keep hW) ⟨k, t0, n0, [], _, rfl, by omega, by omega, rfl, by rw [show Tx [] = Str.ofString "" from by decide +kernel]; rfl, ⟨[], by simp, (fun _ h => nomatch h), by simp⟩, by simp⟩ ?_ ?_)
  · rintro i v m₁ nx h tk own hv hadr hoffo ⟨k2, t2, n2, out, t3, rfl, hk2, hk3, hm1, hm2, hsp, hol⟩ F₁ N₁
    obtain ⟨m', rfl⟩ := map2 hm1 hm2
    obtain ⟨s', ts, rfl, hs⟩ := strs_at hKW hv
    rw [List.getElem?_map] at hs
    obtain ⟨w', hw', rfl⟩ := Option.map_eq_some_iff.mp hs
    have hi : i < ws.length := (List.getElem?_eq_some_iff.mp hw').1
    have ho : (Tx out).length ≤ 2000 := by rw [T_len]; omega
    have hw2 : (Tx w').length ≤ 100 := by rw [T_len]; exact hwl w' (List.mem_of_getElem? hw')
    k_steps
    refine heldI (pickS (by k_asm) (by assumption) (by omega) (by omega) hS (by exact Nat.succ_pos _) (by simp only [List.length_cons, List.length_nil]; omega) hoff (fun p hp => hoffo p hp D (.head _)) (by k_asm) (by k_asm) (by k_asm) (by k_asm) rfl (by first | exact room1 hd rfl | ktr_room) (by first | exact room1 hu rfl | ktr_units) ?_)
    intro r k4 t4 n4 h4 tk4 F4 N4 hk8 hk9 hr
    obtain ⟨sep, tsep, rfl, hsep, hsl⟩ := law_sep hr
    have hsl2 := hsl; have hw3 := hw2; rw [T_len] at hsl2 hw3
    k_steps
    exact InvEndN.intro (J := spreadJ D S news k ws (i + 1)) (by k_asm) (by k_asm) ⟨k4, t4, n4, out ++ w' ++ sep, _, rfl, by omega, by omega, by rfl, by rw [← T_app, ← T_app]; rfl, hsp.step hw' hsep, by simp only [List.length_append]; omega⟩ rfl (by kstt_sub) (by kstt_sub)
  · rintro m₁ nx h tk ⟨k2, t2, n2, out, t3, rfl, hk2, hk3, hm1, hm2, hsp, hol⟩ F₁ N₁
    obtain ⟨m', rfl⟩ := map2 hm1 hm2
    k_steps
    have hvl : vW.length = ws.length := by rw [hKW.length, List.length_map]
    rw [hvl] at hsp hk3 hol
    rw [List.take_length] at hsp
    exact hret _ k2 _ _ _ _ (by k_asm) (by k_asm) hk2 (by omega) ⟨out, t3, rfl, hsp, by omega⟩
end
end
-- KbPa
section
/-- the words of rows of lines -/
noncomputable def lineWords (l : List Nat) : List (List Nat) := (blankGo [] l).takeWhile fun w => !isRemark w
theorem wordsOf_eq (x : List Nat) : wordsOf x = (linesOf [] x).flatMap lineWords := rfl
theorem lines_pre (x : List Nat) : ∀ l : List Nat, ∃ a r, linesOf [] x = a :: r ∧ linesOf l x = (l ++ a) :: r := by
  induction x with
  | nil => intro l; exact ⟨[], [], rfl, by rw [linesOf, List.append_nil]⟩
  | cons c x ih =>
    intro l
    by_cases h : c = 10
    · refine ⟨[], linesOf [] x, ?_, ?_⟩
      · rw [linesOf, if_pos h]
      · rw [linesOf, if_pos h, List.append_nil]
    · obtain ⟨a, r, h1, h2⟩ := ih [c]
      obtain ⟨a', r', h3, h4⟩ := ih (l ++ [c])
      rw [h1] at h3
      cases h3
      refine ⟨[c] ++ a, r, ?_, ?_⟩
      · rw [linesOf, if_neg h]; exact h2
      · rw [linesOf, if_neg h, h4, List.append_assoc]
theorem lines_app : ∀ (a : List Nat), (∀ c ∈ a, c ≠ 10) → ∀ l x, linesOf l (a ++ x) = linesOf (l ++ a) x
  | [], _, l, x => by rw [List.append_nil]; rfl
  | c :: a, h, l, x => by
    rw [List.cons_append, linesOf, if_neg (h c (.head _)), lines_app a (fun d hd => h d (.tail _ hd)), List.append_assoc]; rfl
theorem lines_nl (a : List Nat) (h : ∀ c ∈ a, c ≠ 10) (x : List Nat) : linesOf [] (a ++ 10 :: x) = a :: linesOf [] x := by
  rw [lines_app a h, List.nil_append, linesOf, if_pos rfl]
theorem blank_word : ∀ (w l : List Nat), (∀ c ∈ w, isBlank c = false) → ∀ v, blankGo v (w ++ l) = blankGo (v ++ w) l
  | [], l, _, v => by rw [List.append_nil]; rfl
  | c :: w, l, h, v => by
    rw [List.cons_append, blankGo, if_neg (by rw [h c (.head _)]; simp), blank_word w l (fun d hd => h d (.tail _ hd)), List.append_assoc]; rfl
theorem blank_go {w l : List Nat} {c : Nat} (h : ∀ c ∈ w, isBlank c = false) (hw : w ≠ []) (hc : isBlank c = true) : blankGo [] (w ++ c :: l) = w :: blankGo [] l := by
  rw [blank_word w _ h, List.nil_append, blankGo, if_pos hc, if_neg hw]
theorem blank_end {w : List Nat} (h : ∀ c ∈ w, isBlank c = false) (hw : w ≠ []) : blankGo [] w = [w] := by
  have := blank_word w [] h []
  rw [List.append_nil, List.nil_append] at this
  rw [this, blankGo, if_neg hw]
theorem blank_skip {l : List Nat} {c : Nat} (hc : isBlank c = true) : blankGo [] (c :: l) = blankGo [] l := by
  rw [blankGo, if_pos hc, if_pos rfl]
/-- a word that stands by itself -/
def WordOk (w : List Nat) : Prop := w ≠ [] ∧ (∀ c ∈ w, isBlank c = false) ∧ isRemark w = false
theorem WordOk.no10 {w : List Nat} (h : WordOk w) : ∀ c ∈ w, c ≠ 10 := fun c hc e => by
  have := h.2.1 c hc
  subst e
  exact absurd this (by decide)
theorem lineWords_cons {w l : List Nat} {c : Nat} (h : WordOk w) (hc : isBlank c = true) : lineWords (w ++ c :: l) = w :: lineWords l := by
  unfold lineWords
  rw [blank_go h.2.1 h.1 hc, List.takeWhile_cons, if_pos (by rw [h.2.2]; rfl)]
theorem lineWords_end {w : List Nat} (h : WordOk w) : lineWords w = [w] := by
  unfold lineWords
  rw [blank_end h.2.1 h.1, List.takeWhile_cons, if_pos (by rw [h.2.2]; rfl), List.takeWhile_nil]
theorem words_one {w : List Nat} (h : WordOk w) : wordsOf w = [w] := by
  have := lines_app w h.no10 [] []
  rw [List.append_nil, List.nil_append] at this
  rw [wordsOf_eq, this, linesOf, List.flatMap_cons, List.flatMap_nil, List.append_nil, lineWords_end h]
/-- a word, a blank that is no end of a line, the rest -/
theorem words_blank {w x : List Nat} {c : Nat} (h : WordOk w) (hc : isBlank c = true) (h10 : c ≠ 10) : wordsOf (w ++ c :: x) = w :: wordsOf x := by
  have e : w ++ c :: x = (w ++ [c]) ++ x := by simp
  obtain ⟨a, r, h1, h2⟩ := lines_pre x (w ++ [c])
  rw [wordsOf_eq, wordsOf_eq, e, lines_app (w ++ [c]) (fun d hd => by
    rcases List.mem_append.mp hd with hd | hd
    · exact h.no10 d hd
    · rw [List.mem_singleton.mp hd]; exact h10), List.nil_append, h2, h1, List.flatMap_cons, List.flatMap_cons]
  have e2 : w ++ [c] ++ a = w ++ c :: a := by simp
  rw [e2, lineWords_cons h hc]; rfl
theorem words_nl {w x : List Nat} (h : WordOk w) : wordsOf (w ++ 10 :: x) = w :: wordsOf x := by
  rw [wordsOf_eq, wordsOf_eq, lines_nl w h.no10, List.flatMap_cons, lineWords_end h]; rfl
theorem words_skip {x : List Nat} {c : Nat} (hc : isBlank c = true) (h10 : c ≠ 10) : wordsOf (c :: x) = wordsOf x := by
  obtain ⟨a, r, h1, h2⟩ := lines_pre x [c]
  rw [wordsOf_eq, wordsOf_eq, linesOf, if_neg h10, List.nil_append, h2, h1, List.flatMap_cons, List.flatMap_cons]
  have : lineWords ([c] ++ a) = lineWords a := by
    unfold lineWords
    rw [List.singleton_append, blank_skip hc]
  rw [this]
/-- a remark and the end of its line -/
theorem words_remark {w b x : List Nat} (h : WordOk w) (hb : ∀ c ∈ b, c ≠ 10) (hr : lineWords b = []) : wordsOf (w ++ 32 :: (b ++ 10 :: x)) = w :: wordsOf x := by
  have e : w ++ 32 :: (b ++ 10 :: x) = (w ++ 32 :: b) ++ 10 :: x := by simp
  rw [wordsOf_eq, wordsOf_eq, e, lines_nl _ (fun d hd => by
    rcases List.mem_append.mp hd with hd | hd
    · exact h.no10 d hd
    · rcases List.mem_cons.mp hd with rfl | hd
      · decide
      · exact hb d hd), List.flatMap_cons, lineWords_cons h (by decide), hr]; rfl
theorem words_sep {w s x : List Nat} (h : WordOk w) (hs : s ∈ lawSeps) : wordsOf (w ++ s ++ x) = w :: wordsOf x := by
  unfold lawSeps at hs
  simp only [List.mem_cons, List.not_mem_nil, or_false] at hs
  rcases hs with rfl | rfl | rfl | rfl | rfl | rfl
  · have := words_blank (x := x) h (c := 32) (by decide) (by decide)
    simpa using this
  · have := words_blank (x := 32 :: x) h (c := 32) (by decide) (by decide)
    rw [words_skip (by decide) (by decide)] at this
    simpa using this
  · have := words_nl (x := x) h
    simpa using this
  · have := words_blank (x := x) h (c := 9) (by decide) (by decide)
    simpa using this
  · have := words_remark (x := x) (b := [59, 59, 32, 67, 45, 120, 32, 97]) h (by decide) (by decide +kernel)
    simpa using this
  · have := words_remark (x := x) (b := [82, 69, 77, 32, 98]) h (by decide) (by decide +kernel)
    simpa using this
theorem words_nil : wordsOf [] = [] := by decide +kernel
theorem words_spread : ∀ (ws : List (List Nat)) (seps : List (List Nat)), seps.length = ws.length → (∀ s ∈ seps, s ∈ lawSeps) → (∀ w ∈ ws, WordOk w) → wordsOf (List.zipWith (· ++ ·) ws seps).flatten = ws
  | [], _, _, _, _ => by simpa using words_nil
  | w :: ws, [], h, _, _ => by simp at h
  | w :: ws, s :: seps, h, hs, hw => by
    rw [List.zipWith_cons_cons, List.flatten_cons, words_sep (hw w (.head _)) (hs s (.head _)), words_spread ws seps (by simpa using h) (fun a ha => hs a (.tail _ ha)) (fun a ha => hw a (.tail _ ha))]
theorem spread_words {ws : List (List Nat)} {out : List Nat} (h : Spread ws out) (hw : ∀ w ∈ ws, WordOk w) : wordsOf out = ws := by
  obtain ⟨seps, h1, h2, rfl⟩ := h
  exact words_spread ws seps h1 h2 hw
theorem words_join : ∀ (ws : List (List Nat)), (∀ w ∈ ws, WordOk w) → wordsOf (joinWords ws) = ws
  | [], _ => by simpa [joinWords] using words_nil
  | [w], h => by simpa [joinWords] using words_one (h w (.head _))
  | w :: v :: ws, h => by
    have e : joinWords (w :: v :: ws) = w ++ 32 :: joinWords (v :: ws) := by simp [joinWords, List.intersperse]
    rw [e, words_blank (h w (.head _)) (by decide) (by decide), words_join (v :: ws) fun a ha => h a (.tail _ ha)]
end
-- KbQ
theorem zz_KbQ {prog : Program} {w : World} {A : Around} {env : Env} {E : Value → Shared → Prop} {s : Shared} {Q : Flow → Shared → Prop} (h : Q .next s) : wpAny (model prog w) A (execs [] env) Q E s := by
  k_with_none
  walk1
  exact h
section
theorem esc_ok : codeOf 27 ≤ 1114111 := by decide
def KeyOk : Key → Prop
  | .inl e => codeOf e ≤ 1114111
  | .inr n => n.length ≤ 4000
theorem code_meta {e : Int} (h : codeOf e ≤ 1114111) : codeOf (e + 134217728) ≤ 1114111 := by
  have : codeOf (e + 134217728) = codeOf e := by
    unfold codeOf
    rw [Int.fmod_eq_emod_of_nonneg _ (by decide), Int.fmod_eq_emod_of_nonneg _ (by decide)]
    omega
  rw [this]; exact h
theorem keys_at {vs : List Value} {ks : List Key} (h : KeysAre vs ks) : ∀ {i : Nat} {v : Value}, vs[i]? = some v → ∃ k t, v = kv k t ∧ ks[i]? = some k := by
  induction h with
  | nil => intro i v e; simp at e
  | cons e0 _ ih =>
    intro i v e
    cases i with
    | zero =>
      obtain ⟨t, e0⟩ := e0
      exact ⟨_, t, by rw [← e0]; simpa using e.symm, rfl⟩
    | succ i => exact ih (by simpa using e)
def descP (ks : List Key) (i : Nat) (ws : List (List Nat)) (o : Bool) : Prop := (∀ rest, descGo false (ks.take i ++ rest) = ws ++ descGo o rest) ∧ ws.length ≤ 2 * i
theorem descP_turn {ks : List Key} {i : Nat} {ws add : List (List Nat)} {o o' : Bool} {k : Key} (h : descP ks i ws o) (hk : ks[i]? = some k) (hl : add.length ≤ 2) (hs : ∀ rest, descGo o (k :: rest) = add ++ descGo o' rest) : descP ks (i + 1) (ws ++ add) o' := by
  refine ⟨fun rest => ?_, by rw [List.length_append]; have := h.2; omega⟩
  rw [take_stepL hk, List.append_assoc, List.append_assoc]
  show descGo false (ks.take i ++ (k :: rest)) = _
  rw [h.1, hs]
def descJ (D : Addr) (news : Led) (ks : List Key) (i : Nat) (m : Str → Option Value) (nx : Led) : Prop :=
  ∃ vs n ws o, nx = (D, listOf vs.toArray n) :: news ∧ m (Str.ofString "found") = some (.ref D) ∧ m (Str.ofString "is_open") = some (.bool o) ∧ StrsAre vs (ws.map Tx) ∧ descP ks i ws o
theorem descJ_keep {p : Addr × Obj} {D : Addr} {news : Led} {ks : List Key} (h : p ∈ news) : ∀ i m nx, descJ D news ks i m nx → p ∈ nx := by
  rintro i m nx ⟨vs, n, ws, o, rfl, _⟩; exact .tail _ h
theorem dg1 {e : Int} (h : hasMeta e = false) (r : List Key) : descGo true (.inl e :: r) = [keyText (.inl (e + 134217728))] ++ descGo false r := by
  rw [descGo, if_pos ⟨rfl, h⟩]; rfl
theorem dg2 {e : Int} (h : hasMeta e = true) (h2 : e = 27) (r : List Key) : descGo true (.inl e :: r) = [keyText (.inl 27)] ++ descGo true r := by
  rw [descGo, if_neg (by rw [h]; simp), if_pos rfl, if_pos h2]
theorem dg3 {e : Int} (h : hasMeta e = true) (h2 : e ≠ 27) (r : List Key) : descGo true (.inl e :: r) = [keyText (.inl 27), keyText (.inl e)] ++ descGo false r := by
  rw [descGo, if_neg (by rw [h]; simp), if_pos rfl, if_neg h2]; rfl
theorem dg4 {e : Int} (h2 : e = 27) (r : List Key) : descGo false (.inl e :: r) = [] ++ descGo true r := by
  rw [descGo, if_neg (by simp), if_neg (by simp), if_pos h2]
theorem dg5 {e : Int} (h2 : e ≠ 27) (r : List Key) : descGo false (.inl e :: r) = [keyText (.inl e)] ++ descGo false r := by
  rw [descGo, if_neg (by simp), if_neg (by simp), if_neg h2]; rfl
theorem dg6 {n : List Nat} (r : List Key) : descGo true (.inr n :: r) = [keyText (.inl 27), keyText (.inr n)] ++ descGo false r := by
  rw [descGo, if_pos rfl]; rfl
theorem dg7 {n : List Nat} (r : List Key) : descGo false (.inr n :: r) = [keyText (.inr n)] ++ descGo false r := by
  rw [descGo, if_neg (by simp)]; rfl
section
variable {D : Addr} {news : Led} {ks : List Key} {i n : Nat} {m : Str → Option Value} {vs : List Value} {ws : List (List Nat)} {o o' : Bool} {k : Key}
theorem descJ0 (hV : StrsAre vs (ws.map Tx)) (hP : descP ks i ws o) (hk : ks[i]? = some k) (h1 : m (Str.ofString "found") = some (.ref D)) (h2 : m (Str.ofString "is_open") = some (.bool o')) (hs : ∀ rest, descGo o (k :: rest) = [] ++ descGo o' rest) :
    descJ D news ks (i + 1) m ((D, listOf vs.toArray n) :: news) := by
  have := descP_turn hP hk (Nat.zero_le _) hs
  rw [List.append_nil] at this
  exact ⟨vs, n, ws, o', rfl, h1, h2, hV, this⟩
theorem descJ1 (a : List Nat) {t : Tok} (hV : StrsAre vs (ws.map Tx)) (hP : descP ks i ws o) (hk : ks[i]? = some k) (h1 : m (Str.ofString "found") = some (.ref D)) (h2 : m (Str.ofString "is_open") = some (.bool o')) (hs : ∀ rest, descGo o (k :: rest) = [a] ++ descGo o' rest) :
    descJ D news ks (i + 1) m ((D, listOf (vs ++ [Value.str (Tx a) t]).toArray n) :: news) :=
  ⟨vs ++ [Value.str (Tx a) t], n, ws ++ [a], o', rfl, h1, h2, by rw [List.map_append]; exact hV.append' (.cons _ _ .nil), descP_turn hP hk (by simp) hs⟩
theorem descJ2 (a b : List Nat) {t u : Tok} (hV : StrsAre vs (ws.map Tx)) (hP : descP ks i ws o) (hk : ks[i]? = some k) (h1 : m (Str.ofString "found") = some (.ref D)) (h2 : m (Str.ofString "is_open") = some (.bool o')) (hs : ∀ rest, descGo o (k :: rest) = [a, b] ++ descGo o' rest) :
    descJ D news ks (i + 1) m ((D, listOf ((vs ++ [Value.str (Tx a) t]) ++ [Value.str (Tx b) u]).toArray n) :: news) :=
  ⟨(vs ++ [Value.str (Tx a) t]) ++ [Value.str (Tx b) u], n, ws ++ [a, b], o', rfl, h1, h2, by rw [List.map_append, List.append_assoc]; exact hV.append' (.cons _ _ (.cons _ _ .nil)), descP_turn hP hk (by simp) hs⟩
end
section

theorem kc_9baa6d2f257 : True := by
  k_with_none
  k_with "call ref cons" => (k_here; first
    | ((with_reducible show wpAny _ _ (call (Value.ref 42) _) _ _ _); k_dflt (refine' TellV.use (tell_is_sign_int ) ?k1 ?k2 ?k3 ?k4 ?k5 ?kK ?kd ?ku ?_; (case k1 => k_asm); (case k2 => k_asm); (case k3 => k_asm); (case k4 => k_asm); (case k5 => k_asm); (case kK => first | exact rfl | assumption); (case kd => first | exact room1 hd rfl | ktr_room); (case ku => first | exact room1 hu rfl | ktr_units); intro t9 h9 tk9 F9 N9; (try dsimp only); (try k_fold)))
    | ((with_reducible show wpAny _ _ (call (Value.ref 42) _) _ _ _); k_dflt (refine' TellV.use (tell_is_sign_str ) ?k1 ?k2 ?k3 ?k4 ?k5 ?kK ?kd ?ku ?_; (case k1 => k_asm); (case k2 => k_asm); (case k3 => k_asm); (case k4 => k_asm); (case k5 => k_asm); (case kK => first | exact rfl | assumption); (case kd => first | exact room1 hd rfl | ktr_room); (case ku => first | exact room1 hu rfl | ktr_units); intro t9 h9 tk9 F9 N9; (try dsimp only); (try k_fold)))
    | ((with_reducible show wpAny _ _ (call (Value.ref 134) _) _ _ _); k_dflt (refine' TellV.use (tell_has_meta_int ) ?k1 ?k2 ?k3 ?k4 ?k5 ?kK ?kd ?ku ?_; (case k1 => k_asm); (case k2 => k_asm); (case k3 => k_asm); (case k4 => k_asm); (case k5 => k_asm); (case kK => first | exact rfl | assumption); (case kd => first | exact room1 hd rfl | ktr_room); (case ku => first | exact room1 hu rfl | ktr_units); intro t9 h9 tk9 F9 N9; (try dsimp only); (try k_fold)))
    | ((with_reducible show wpAny _ _ (call (Value.ref 198) _) _ _ _); k_dflt (refine' TellV.use (tell_skd_int (by first | assumption | exact code_meta (by assumption) | exact esc_ok)) ?k1 ?k2 ?k3 ?k4 ?k5 ?kK ?kd ?ku ?_; (case k1 => k_asm); (case k2 => k_asm); (case k3 => k_asm); (case k4 => k_asm); (case k5 => k_asm); (case kK => first | exact rfl | assumption); (case kd => first | exact room1 hd rfl | ktr_room); (case ku => first | exact room1 hu rfl | ktr_units); intro t9 h9 tk9 F9 N9; (try dsimp only); (try k_fold)))
    | ((with_reducible show wpAny _ _ (call (Value.ref 198) _) _ _ _); k_dflt (refine' TellV.use (tell_skd_str (by assumption)) ?k1 ?k2 ?k3 ?k4 ?k5 ?kK ?kd ?ku ?_; (case k1 => k_asm); (case k2 => k_asm); (case k3 => k_asm); (case k4 => k_asm); (case k5 => k_asm); (case kK => first | exact rfl | assumption); (case kd => first | exact room1 hd rfl | ktr_room); (case ku => first | exact room1 hu rfl | ktr_units); intro t9 h9 tk9 F9 N9; (try dsimp only); (try k_fold))))
  trivial

theorem tell_described {w : World} {K : Addr} {vK : List Value} {nK : Nat} {ks : List Key} {news : Led} (hK : (K, ({ cls := .type "tuple", data := .seq vK.toArray nK } : Obj)) ∈ news) (hks : KeysAre vK ks) (ok : ∀ k ∈ ks, KeyOk k) (hl : ks.length ≤ 1000) :
   TellN w 308 [.ref K] news 60 480 (SListO (descGo false ks)) := by
  k_with "execs cons" => (k_here; with_reducible refine exs_cons fun _ => ?_; k_fold)
  k_with "call builtin:list.append" => (k_here; with_reducible refine held_ ?_)
  have hfill : (PySem.Challenge.rw_np0049_01, hd.heap_39) = (PySem.Challenge.rw_np0049_01, hd.heap_39) := by k_fill; rfl
  clear hfill
  intro mean mg mb dp un gd cn cs a ccd cl outer A₀ base h₀ L m s Q E B F X N T hk hd hu hret
  refine wpAny_call ?_
  k_dflt (refine' code_defN ?k1 ?k2 ?k3 ?k4 ?k5 ?kA ?kF ?kK ?k6 ?k7 ?k8 ?k9 ?kB ?hl ?_ ?c2 ?c3 ?c4 ?c5; (case kA => exact rfl); (case kF => exact rfl); (case kK => assumption); (case k1 => k_asm); (case k2 => k_asm); (case k3 => k_asm); (case k4 => k_asm); (case k5 => k_asm); (case k6 => k_is); (case k7 => k_is); (case k8 => first | exact room0 hd | ktr_room); (case k9 => exact BindsTo.of_eq rfl); (case c5 => decide); (case kB => exact locs rfl); (case hl => first | exact (rfl : _ = [(_, _)]) | exact (rfl : _ = [(_, _), (_, _)]) | exact (rfl : _ = [(_, _), (_, _), (_, _)]) | exact rfl); (case c2 => exact rfl); (case c3 => exact rfl); (case c4 => exact rfl); k_whole; intro g' L' h' tkE FG' F' N' B' X' T'; (try dsimp only); (try k_lift B'); (try k_fold))
  (change let ev : Env := _; wpAny _ (Around.deeper _ ev) (execs _ ev) _ _ _)
  intro ev
  (change let Ax : Around := _; wpAny _ Ax (execs _ ev) _ _ _)
  intro Ax
  k_steps
  refine heldI (iter_tupN (descJ _ news ks) (by rfl) (.tail _ hK) (by k_asm) (by k_asm) (descJ_keep hK) ⟨[], 0, [], false, rfl, rfl, rfl, .nil, fun rest => rfl, Nat.zero_le _⟩ ?_ ?_)
  · rintro i v m₁ nx h tk own hv hadr hoff ⟨vs, n, ws, o, rfl, hm1, hm2, hV, hP⟩ F₁ N₁
    obtain ⟨m', rfl⟩ := map2 hm1 hm2
    obtain ⟨k, t, rfl, hk⟩ := keys_at hks hv
    have hko := ok k (List.mem_of_getElem? hk)
    have hi : i ≤ 1000 := by
      have := (List.getElem?_eq_some_iff.mp hk).1
      omega
    have hvl : vs.length ≤ 2000 := by rw [hV.length, List.length_map]; have := hP.2; omega
    cases k with
    | inl e =>
      have hko' : codeOf e ≤ 1114111 := hko
      dsimp only [kv]
      cases o with
      | true =>
        cases hme : hasMeta e with
        | true =>
          k_steps
          refine heldI (appendD (rest := news ++ own) (by k_asm) (by k_asm) (by k_mem) (by kstt_sub) (off_own (by assumption) hoff) (by first | omega | (simp only [List.length_append, List.length_cons, List.length_nil]; omega)) fun h1 F1 N1 => ?_)
          k_steps
          · exact InvEndN.intro (by k_asm) (by k_asm) (descJ1 _ hV hP hk (by rfl) (by first | rfl | (show some (Value.bool _) = _; simp [*])) (dg2 hme (by assumption))) rfl sub_head sub_own
          · refine heldI (appendD (rest := news ++ own) (by k_asm) (by k_asm) (by k_mem) (by kstt_sub) (off_own (by assumption) hoff) (by first | omega | (simp only [List.length_append, List.length_cons, List.length_nil]; omega)) fun h2 F2 N2 => ?_)
            k_steps
            exact InvEndN.intro (by k_asm) (by k_asm) (descJ2 _ _ hV hP hk (by rfl) (by first | rfl | (show some (Value.bool _) = _; simp [*])) (dg3 hme (by assumption))) rfl sub_head sub_own
        | false =>
          k_steps
          refine heldI (appendD (rest := news ++ own) (by k_asm) (by k_asm) (by k_mem) (by kstt_sub) (off_own (by assumption) hoff) (by first | omega | (simp only [List.length_append, List.length_cons, List.length_nil]; omega)) fun h1 F1 N1 => ?_)
          k_steps
          exact InvEndN.intro (by k_asm) (by k_asm) (descJ1 _ hV hP hk (by rfl) (by first | rfl | (show some (Value.bool _) = _; simp [*])) (dg1 hme)) rfl sub_head sub_own
      | false =>
        k_steps
        · exact InvEndN.intro (by k_asm) (by k_asm) (descJ0 (n := n) hV hP hk (by rfl) (by first | rfl | (show some (Value.bool _) = _; simp [*])) (dg4 (by assumption))) rfl (by kstt_sub) (by kstt_sub)
        · refine heldI (appendD (rest := news ++ own) (by k_asm) (by k_asm) (by k_mem) (by kstt_sub) (off_own (by assumption) hoff) (by first | omega | (simp only [List.length_append, List.length_cons, List.length_nil]; omega)) fun h1 F1 N1 => ?_)
          k_steps
          exact InvEndN.intro (by k_asm) (by k_asm) (descJ1 _ hV hP hk (by rfl) (by first | rfl | (show some (Value.bool _) = _; simp [*])) (dg5 (by assumption))) rfl sub_head sub_own
    | inr x =>
      dsimp only [kv]
      have hko' : (Tx x).length ≤ 4000 := by rw [T_len]; exact hko
      cases o with
      | true =>
        k_steps
        refine heldI (appendD (rest := news ++ own) (by k_asm) (by k_asm) (by k_mem) (by kstt_sub) (off_own (by assumption) hoff) (by first | omega | (simp only [List.length_append, List.length_cons, List.length_nil]; omega)) fun h1 F1 N1 => ?_)
        k_steps
        refine heldI (appendD (rest := news ++ own) (by k_asm) (by k_asm) (by k_mem) (by kstt_sub) (off_own (by assumption) hoff) (by first | omega | (simp only [List.length_append, List.length_cons, List.length_nil]; omega)) fun h2 F2 N2 => ?_)
        k_steps
        exact InvEndN.intro (by k_asm) (by k_asm) (descJ2 _ _ hV hP hk (by rfl) (by first | rfl | (show some (Value.bool _) = _; simp [*])) dg6) rfl sub_head sub_own
      | false =>
        k_steps
        refine heldI (appendD (rest := news ++ own) (by k_asm) (by k_asm) (by k_mem) (by kstt_sub) (off_own (by assumption) hoff) (by first | omega | (simp only [List.length_append, List.length_cons, List.length_nil]; omega)) fun h1 F1 N1 => ?_)
        k_steps
        exact InvEndN.intro (by k_asm) (by k_asm) (descJ1 _ hV hP hk (by rfl) (by first | rfl | (show some (Value.bool _) = _; simp [*])) dg7) rfl sub_head sub_own
  · rintro m₁ nx h tk ⟨vs, n, ws, o, rfl, hm1, hm2, hV, hP⟩ F₁ N₁
    obtain ⟨m', rfl⟩ := map2 hm1 hm2
    cases o with
    | true =>
      k_steps
      refine heldI (appendD (rest := news) (by k_asm) (by k_asm) (by k_mem) (by kstt_sub) (lt_nes (by assumption)) (by rw [hV.length, List.length_map]; have := hP.2; rw [hks.len] at this; omega) fun h1 F1 N1 => ?_)
      k_steps
      refine retN2 hret (by k_asm) (by k_asm) (by k_mem) (by kcj_all) (lt_nes (by assumption)) ⟨_, _, ?_, rfl⟩
      have q := hP.1 []
      rw [hks.len, List.take_length, List.append_nil] at q
      rw [q, List.map_append]
      exact hV.append' (.cons _ _ .nil)
    | false =>
      k_steps
      refine retN2 hret (by k_asm) (by k_asm) (by k_mem) (by kcj_all) (lt_nes (by assumption)) ⟨_, _, ?_, rfl⟩
      have q := hP.1 []
      rw [hks.len, List.take_length, List.append_nil] at q
      rw [q, List.map_append]
      simpa [descGo] using hV
end
end
-- KbPb
section
/-- words and the keys that they tell -/
inductive Al : List (List Nat) → List Key → Prop where
  | nil : Al [] []
  | cons {w : List Nat} {k : Key} {ws : List (List Nat)} {ks : List Key} : wordGood k w = true → Al ws ks → Al (w :: ws) (k :: ks)
theorem beq_key : ∀ {a b : Key}, (a == b) = true → a = b
  | .inl _, .inl _, h => congrArg Sum.inl (eq_of_beq h)
  | .inr _, .inr _, h => congrArg Sum.inr (eq_of_beq h)
  | .inl _, .inr _, h => nomatch h
  | .inr _, .inl _, h => nomatch h
theorem beq_one {o : Option (List Key)} {k : Key} (h : (o == some [k]) = true) : o = some [k] := by
  match o, h with
  | some [a], h =>
    have : (a == k && true) = true := h
    rw [Bool.and_true] at this
    rw [beq_key this]
  | some [], h => cases h
  | some (a :: b :: r), h =>
    have : (a == k && false) = true := h
    rw [Bool.and_false] at this
    cases this
  | none, h => cases h
theorem wg_facts {k : Key} {t : List Nat} (h : wordGood k t = true) : keyText k = t ∧ timesOf t = some (1, t) ∧ wordKeys t = some [k] ∧ WordOk t ∧ t.length ≤ 30 ∧ digitsAt t ≤ 1 := by
  unfold wordGood clean at h
  simp only [Bool.and_eq_true, beq_iff_eq, decide_eq_true_eq, bne_iff_ne, ne_eq, Bool.not_eq_true', List.all_eq_true] at h
  obtain ⟨⟨⟨h1, h2⟩, h3⟩, ⟨⟨⟨h4, h5⟩, h6⟩, h7⟩, h8⟩ := h
  exact ⟨h1, h2, beq_one h3, ⟨h4, h6, h5⟩, h7, h8⟩
theorem wg_rel {k : Key} {t : List Nat} (h : wordGood k t = true) : WordRel t [k] := by
  obtain ⟨_, h2, h3, _, h5, h6⟩ := wg_facts h
  exact ⟨1, t, [k], h2, h6, h3, by simp [repeatKeys], by decide, by simp, by omega, by omega⟩
theorem Al.words {ws : List (List Nat)} {ks : List Key} (h : Al ws ks) : ∀ w ∈ ws, WordOk w ∧ w.length ≤ 30 := by
  induction h with
  | nil => exact fun w hw => nomatch hw
  | cons hg _ ih =>
    intro w hw
    rcases List.mem_cons.mp hw with rfl | hw
    · obtain ⟨_, _, _, h4, h5, _⟩ := wg_facts hg; exact ⟨h4, h5⟩
    · exact ih w hw
theorem Al.len {ws : List (List Nat)} {ks : List Key} (h : Al ws ks) : ws.length = ks.length := by
  induction h with
  | nil => rfl
  | cons _ _ ih => rw [List.length_cons, List.length_cons, ih]
theorem Al.reads {ws : List (List Nat)} {ks : List Key} (h : Al ws ks) : Reads ws (ks.map fun k => [k]) := by
  induction h with
  | nil => intro i w e; simp at e
  | cons hg _ ih =>
    intro i w e
    cases i with
    | zero =>
      simp only [List.getElem?_cons_zero, Option.some.injEq] at e
      subst e
      exact ⟨_, rfl, wg_rel hg⟩
    | succ i => exact ih i w (by simpa using e)
theorem flat_single (ks : List Key) : (ks.map fun k => [k]).flatten = ks := by
  induction ks with
  | nil => rfl
  | cons k r ih => rw [List.map_cons, List.flatten_cons, ih]; rfl
theorem tell_kbd_al {w : World} {x : Str} {t : Tok} {news : Led} {ws : List (List Nat)} {ks : List Key} (hx : x.length ≤ 4000) (hw : wordsOf (Lst x) = ws) (h : Al ws ks) (hl : ks.length ≤ 1000) : TellN w 301 [.str x t] news 100 800 (KTupO ks) := by
  subst hw
  have := tell_kbd (w := w) (t := t) (news := news) hx h.reads (by rw [h.len, List.length_map]) (by rw [flat_single]; omega)
  rwa [flat_single] at this
/-- a key of the law -/
def GoodKey (k : Key) : Prop := ∃ ls text, ls ∈ subsOf modL ∧ (k, text) ∈ pairsOf ls
theorem pair_good {ls text : List Nat} {k : Key} (h1 : ls ∈ subsOf modL) (h2 : (k, text) ∈ pairsOf ls) : pairGood (k, text) = true :=
  List.all_eq_true.mp (List.all_eq_true.mp pairs_good ls h1) _ h2
theorem pair_word {ls text : List Nat} {k : Key} (h1 : ls ∈ subsOf modL) (h2 : (k, text) ∈ pairsOf ls) : wordGood k text = true := by
  have := pair_good h1 h2
  unfold pairGood at this
  simp only [Bool.and_eq_true] at this
  exact this.1.1
theorem pair_fine {ls text : List Nat} {k : Key} (h1 : ls ∈ subsOf modL) (h2 : (k, text) ∈ pairsOf ls) : keyFine k = true := by
  have := pair_good h1 h2
  unfold pairGood at this
  simp only [Bool.and_eq_true] at this
  exact this.1.2
theorem GoodKey.word {k : Key} (h : GoodKey k) : wordGood k (keyText k) = true := by
  obtain ⟨ls, text, h1, h2⟩ := h
  have := pair_word h1 h2
  rw [(wg_facts this).1]; exact this
theorem GoodKey.fine {k : Key} (h : GoodKey k) : keyFine k = true := by
  obtain ⟨ls, text, h1, h2⟩ := h
  exact pair_fine h1 h2
theorem GoodKey.sign {e : Int} (h : GoodKey (.inl e)) : hasMeta e = decide (134217728 ≤ e) ∧ (e < 134217728 → keyFine (.inl (e + 134217728)) = true ∧ wordGood (.inl (e + 134217728)) (keyText (.inl (e + 134217728))) = true) := by
  obtain ⟨ls, text, h1, h2⟩ := h
  have := pair_good h1 h2
  unfold pairGood at this
  simp only [Bool.and_eq_true, Bool.or_eq_true, beq_iff_eq, decide_eq_true_eq] at this
  exact ⟨this.2.1.2, fun hlt => this.2.2.resolve_left (by omega)⟩
theorem fine_ok {k : Key} (h : keyFine k = true) : KeyOk k ∧ KeyStr k := by
  cases k with
  | inl e =>
    have : codeOf e ≤ 1114111 := by simpa [keyFine] using h
    exact ⟨this, trivial⟩
  | inr n =>
    have : PyData.strOk (Tx n) = true ∧ n.length ≤ 30 := by simpa [keyFine] using h
    exact ⟨by show n.length ≤ 4000; omega, this.1⟩
theorem esc_good : wordGood (.inl 27) (keyText (.inl 27)) = true := by decide +kernel
theorem desc_al : ∀ (ks : List Key) (o : Bool), (∀ k ∈ ks, GoodKey k) → Al (descGo o ks) (joined (if o = true then .inl 27 :: ks else ks))
  | [], true, _ => by rw [if_pos rfl, joined_esc_end]; exact .cons esc_good .nil
  | [], false, _ => by rw [if_neg (by simp)]; simpa [descGo, joined] using Al.nil
  | .inr n :: r, true, h => by
    rw [if_pos rfl, dg6, joined_esc_inr, joined_inr]
    exact .cons esc_good (.cons (h _ (.head _)).word (by simpa using desc_al r false fun k hk => h k (.tail _ hk)))
  | .inr n :: r, false, h => by
    rw [if_neg (by simp), dg7, joined_inr]
    exact .cons (h _ (.head _)).word (by simpa using desc_al r false fun k hk => h k (.tail _ hk))
  | .inl e :: r, true, h => by
    have hg := h _ (.head _)
    obtain ⟨hm, hs⟩ := hg.sign
    have ih : Al (descGo false r) (joined r) := by simpa using desc_al r false fun k hk => h k (.tail _ hk)
    rw [if_pos rfl]
    by_cases hlt : e < 134217728
    · rw [dg1 (by rw [hm]; exact decide_eq_false (by omega)), joined_esc_lt rfl hlt]
      exact .cons (hs hlt).2 ih
    · rw [dg3 (by rw [hm]; exact decide_eq_true (by omega)) (by omega), joined_esc_ge hlt, joined_ne (by omega)]
      exact .cons esc_good (.cons hg.word ih)
  | .inl e :: r, false, h => by
    have hg := h _ (.head _)
    rw [if_neg (by simp)]
    by_cases he : e = 27
    · subst he
      rw [dg4 rfl]
      simpa using desc_al r true fun k hk => h k (.tail _ hk)
    · rw [dg5 he, joined_ne he]
      exact .cons hg.word (by simpa using desc_al r false fun k hk => h k (.tail _ hk))
theorem desc_good {ks : List Key} (h : ∀ k ∈ ks, GoodKey k) : Al (descGo false ks) (joined ks) := by simpa using desc_al ks false h
theorem joined_len : ∀ ks : List Key, (joined ks).length ≤ ks.length
  | [] => by simp [joined]
  | .inr n :: r => by rw [joined_inr]; have := joined_len r; simp; omega
  | [.inl e] => by simp [joined]
  | .inl e :: .inr n :: r => by rw [joined_esc_inr, joined_inr]; have := joined_len r; simp; omega
  | .inl e :: .inl e2 :: r => by
    rw [joined]
    have h1 := joined_len r
    have h2 := joined_len (.inl e2 :: r)
    split <;> simp at * <;> omega
theorem joinWords_len : ∀ ws : List (List Nat), (joinWords ws).length ≤ (ws.map List.length).sum + ws.length
  | [] => by simp [joinWords]
  | [w] => by simp [joinWords]
  | w :: v :: r => by
    have e : joinWords (w :: v :: r) = w ++ 32 :: joinWords (v :: r) := by simp [joinWords, List.intersperse]
    have := joinWords_len (v :: r)
    rw [e]
    simp only [List.length_append, List.length_cons, List.map_cons, List.sum_cons] at this ⊢
    omega
theorem sum_le (ws : List (List Nat)) (n : Nat) (h : ∀ w ∈ ws, w.length ≤ n) : (ws.map List.length).sum ≤ n * ws.length := by
  induction ws with
  | nil => simp
  | cons w r ih =>
    have h1 := h w (.head _)
    have h2 := ih fun a ha => h a (.tail _ ha)
    rw [List.map_cons, List.sum_cons, List.length_cons, Nat.mul_succ]
    omega
/-- what the keys' description is like -/
theorem desc_sizes {ks : List Key} (h : ∀ k ∈ ks, GoodKey k) (hl : ks.length ≤ 6) : ((descGo false ks).map List.length).sum + (descGo false ks).length ≤ 200 ∧ (joinWords (descGo false ks)).length ≤ 200 ∧ wordsOf (joinWords (descGo false ks)) = descGo false ks := by
  have A := desc_good h
  have h1 : (descGo false ks).length ≤ 6 := by rw [A.len]; have := joined_len ks; omega
  have h2 := sum_le (descGo false ks) 30 fun w hw => (A.words w hw).2
  have h3 := joinWords_len (descGo false ks)
  exact ⟨by omega, by omega, words_join _ fun w hw => (A.words w hw).1⟩
/-- a number of times ahead of a word -/
theorem times_word {k : Key} {t : List Nat} {m : Nat} (h : wordGood k t = true) (hm : m ≤ 4) : wordsOf ((48 + m) :: 42 :: t) = [(48 + m) :: 42 :: t] ∧ WordRel ((48 + m) :: 42 :: t) (List.replicate m k) := by
  obtain ⟨_, h2, h3, h4, h5, h6⟩ := wg_facts h
  have hd : isDigit (48 + m) = true := by unfold isDigit; exact decide_eq_true (by omega)
  have h42 : isDigit 42 = false := by decide
  have e1 : digitsAt ((48 + m) :: 42 :: t) = 1 := by
    unfold digitsAt
    rw [List.takeWhile_cons, if_pos hd, List.takeWhile_cons, if_neg (by rw [h42]; simp)]; rfl
  refine ⟨words_one ⟨by simp, ?_, ?_⟩, m, t, [k], ?_, by omega, h3, ?_, by omega, by simp, by simp; omega, by omega⟩
  · intro c hc
    rcases List.mem_cons.mp hc with rfl | hc
    · unfold isBlank
      simp only [Bool.or_eq_false_iff, decide_eq_false_iff_not]
      omega
    · rcases List.mem_cons.mp hc with rfl | hc
      · decide
      · exact h4.2.1 c hc
  · unfold isRemark
    simp only [Bool.or_eq_false_iff, beq_eq_false_iff_ne, ne_eq, List.cons.injEq, not_and]
    exact ⟨fun q => by omega, fun q => by omega⟩
  · unfold timesOf
    rw [e1, if_neg (by
      rintro (q | q | q)
      · omega
      · simp at q
      · exact h4.1 (by simpa using q)), if_neg (by omega)]
    simp [numOf]
  · clear hm hd e1
    induction m with
    | zero => rfl
    | succ m ih => rw [List.replicate_succ, ih]; simp [repeatKeys, List.replicate_succ]
end
-- KbR
section
theorem sum_len (ls : List (List Nat)) : ((ls.map Tx).map (·.length)).sum = (ls.map List.length).sum := by
  rw [List.map_map]; exact congrArg List.sum (List.map_congr_left fun l _ => T_len l)
theorem join_sp (ls : List (List Nat)) : Txt.join (Str.ofString " ") (ls.map Tx) = Tx (joinWords ls) := by
  rw [joinT, sp_lst]; rfl
theorem sp_len : (Str.ofString " ").length = 1 := by decide +kernel
section

theorem tell_key_description_t {w : World} {T : Addr} {vK : List Value} {nK : Nat} {ks : List Key} {news : Led} (hK : (T, ({ cls := .type "tuple", data := .seq vK.toArray nK } : Obj)) ∈ news) (hks : KeysAre vK ks) (ok : ∀ k ∈ ks, KeyOk k) (hl : ks.length ≤ 1000)
    (hj : ((descGo false ks).map List.length).sum + (descGo false ks).length ≤ 16000000) :
   TellV w 317 [.ref T] news 64 512 (fun t => .str (Tx (joinWords (descGo false ks))) t) := by
  k_with_none
  k_with "execs cons" => (k_here; with_reducible refine exs_cons fun _ => ?_; k_fold)
  k_with "call ref" => (k_here; with_reducible refine held_ ?_)
  k_with "binaryOp Add ref ref" => (k_here; with_reducible refine held_ ?_)
  k_with "call type:tuple" => (k_here; with_reducible refine held_ ?_)
  have hfill : (PySem.Challenge.rw_np0049_01, hd.heap_39) = (PySem.Challenge.rw_np0049_01, hd.heap_39) := by k_fill; rfl
  clear hfill
  intro mean mg mb dp un gd cn cs a ccd cl outer A₀ base h₀ L m s Q E B F X N T hk hd hu hret
  refine wpAny_call ?_
  k_dflt (refine' code_defN ?k1 ?k2 ?k3 ?k4 ?k5 ?kA ?kF ?kK ?k6 ?k7 ?k8 ?k9 ?kB ?hl ?_ ?c2 ?c3 ?c4 ?c5; (case kA => exact rfl); (case kF => exact rfl); (case kK => assumption); (case k1 => k_asm); (case k2 => k_asm); (case k3 => k_asm); (case k4 => k_asm); (case k5 => k_asm); (case k6 => k_is); (case k7 => k_is); (case k8 => first | exact room0 hd | ktr_room); (case k9 => exact binds_K (by k_in) rfl (by k_is) rfl rfl rfl); (case c5 => decide); (case kB => exact locs rfl); (case hl => first | exact (rfl : _ = [(_, _)]) | exact (rfl : _ = [(_, _), (_, _)]) | exact (rfl : _ = [(_, _), (_, _), (_, _)]) | exact rfl); (case c2 => exact rfl); (case c3 => exact rfl); (case c4 => exact rfl); k_whole; intro g' L' h' tkE FG' F' N' B' X' T'; (try dsimp only); (try k_lift B'); (try k_fold))
  (change let ev : Env := _; wpAny _ (Around.deeper _ ev) (execs _ ev) _ _ _)
  intro ev
  (change let Ax : Around := _; wpAny _ Ax (execs _ ev) _ _ _)
  intro Ax
  k_steps
  refine heldI (call_tuple_tup (tup_K (by k_in) (by k_is)) ?_)
  k_steps
  refine heldI (call_tuple_tup (News.isTup (by k_asm) hK) ?_)
  k_steps
  refine heldI (add_tuples (vs := []) (ws := vK) (by k_asm) (by k_asm) (tup_K (by k_in) (by k_is)) (News.isTup (by k_asm) hK) (fun _ => ?_) (fun h => absurd rfl h) (fun h => absurd rfl h) (by rw [hks.len, sizeLine_eq]; simp; omega))
  k_steps
  refine heldI (TellN.use2 (tell_described hK hks ok hl) (by k_asm) (by k_asm) (by k_asm) (by k_asm) (by k_asm) rfl (by first | exact room1 hd rfl | ktr_room) (by first | exact room1 hu rfl | ktr_units) ?_)
  intro B vB nB hB tkB FB NB lB KB
  k_steps
  refine join_list (News.isList NB (.head _)) KB ?_ ?_
  · rw [sum_len, List.length_map, sp_len]; omega
  intro t9 k9
  k_steps
  exact cb_retS hret (join_sp _) (by k_asm) (cb_drop (by k_asm) (by kcj_all))
theorem tell_key_description_l {w : World} {A B : Addr} {vA vB : List Value} {nA nB : Nat} {ka kb : List Key} {news : Led} (hA : (A, listOf vA.toArray nA) ∈ news) (hB : (B, listOf vB.toArray nB) ∈ news) (hka : KeysAre vA ka) (hkb : KeysAre vB kb) (hne : kb ≠ []) (ok : ∀ k ∈ kb ++ ka, KeyOk k) (hl : (kb ++ ka).length ≤ 1000)
    (hj : ((descGo false (kb ++ ka)).map List.length).sum + (descGo false (kb ++ ka)).length ≤ 16000000) :
   TellV w 317 [.ref A, .ref B] news 64 512 (fun t => .str (Tx (joinWords (descGo false (kb ++ ka)))) t) := by
  k_with_none
  k_with "execs cons" => (k_here; with_reducible refine exs_cons fun _ => ?_; k_fold)
  k_with "call ref" => (k_here; with_reducible refine held_ ?_)
  k_with "binaryOp Add ref ref" => (k_here; with_reducible refine held_ ?_)
  k_with "call type:tuple" => (k_here; with_reducible refine held_ ?_)
  have hfill : (PySem.Challenge.rw_np0049_01, hd.heap_39) = (PySem.Challenge.rw_np0049_01, hd.heap_39) := by k_fill; rfl
  clear hfill
  intro mean mg mb dp un gd cn cs a ccd cl outer A₀ base h₀ L m s Q E B F X N T hk hd hu hret
  refine wpAny_call ?_
  k_dflt (refine' code_defN ?k1 ?k2 ?k3 ?k4 ?k5 ?kA ?kF ?kK ?k6 ?k7 ?k8 ?k9 ?kB ?hl ?_ ?c2 ?c3 ?c4 ?c5; (case kA => exact rfl); (case kF => exact rfl); (case kK => assumption); (case k1 => k_asm); (case k2 => k_asm); (case k3 => k_asm); (case k4 => k_asm); (case k5 => k_asm); (case k6 => k_is); (case k7 => k_is); (case k8 => first | exact room0 hd | ktr_room); (case k9 => exact binds_K (by k_in) rfl (by k_is) rfl rfl rfl); (case c5 => decide); (case kB => exact locs rfl); (case hl => first | exact (rfl : _ = [(_, _)]) | exact (rfl : _ = [(_, _), (_, _)]) | exact (rfl : _ = [(_, _), (_, _), (_, _)]) | exact rfl); (case c2 => exact rfl); (case c3 => exact rfl); (case c4 => exact rfl); k_whole; intro g' L' h' tkE FG' F' N' B' X' T'; (try dsimp only); (try k_lift B'); (try k_fold))
  (change let ev : Env := _; wpAny _ (Around.deeper _ ev) (execs _ ev) _ _ _)
  intro ev
  (change let Ax : Around := _; wpAny _ Ax (execs _ ev) _ _ _)
  intro Ax
  k_steps
  have la : vA.length ≤ 1000 := by rw [hka.len]; simp at hl; omega
  have lb : vB.length ≤ 1000 := by rw [hkb.len]; simp at hl; omega
  have lab : vB.length + vA.length ≤ 1000 := by rw [hka.len, hkb.len]; simpa using hl
  have hvb : vB ≠ [] := by
    intro e
    subst e
    cases hkb
    exact hne rfl
  refine heldI (kde_tupleOf (by k_asm) (by k_asm) (News.isList (by k_asm) hB) (by rw [List.size_toArray]; omega) rfl fun D1 h1 F1 N1 l1 => ?_)
  k_steps
  refine heldI (kde_tupleOf (by k_asm) (by k_asm) (News.isList (by k_asm) (.tail _ hA)) (by rw [List.size_toArray]; omega) rfl fun D2 h2 F2 N2 l2 => ?_)
  k_steps
  refine heldI (add_tuples (vs := vB) (ws := vA) (by k_asm) (by k_asm) (News.isTup (by k_asm) (.tail _ (.head _))) (News.isTup (by k_asm) (.head _)) (fun e => absurd e hvb) (fun _ e => ?_) (fun _ _ h3 F3 N3 => ?_) (by rw [sizeLine_eq]; omega))
  · subst e
    cases hka
    rw [List.append_nil] at ok hl hj hret
    k_steps
    refine heldI (TellN.use2 (tell_described (K := D1) (vK := vB) (nK := _) (.tail _ (.head _)) (hkb) ok hl) (by k_asm) (by k_asm) (by k_asm) (by k_asm) (by k_asm) rfl (by first | exact room1 hd rfl | ktr_room) (by first | exact room1 hu rfl | ktr_units) ?_)
    intro B3 vB3 nB3 hB3 tkB FB NB lB KB
    k_steps
    refine join_list (News.isList NB (.head _)) KB ?_ ?_
    · rw [sum_len, List.length_map, sp_len]; omega
    intro t9 k9
    k_steps
    exact cb_retS hret (join_sp _) (by k_asm) (cb_drop (by k_asm) (by kcj_all))
  · k_steps
    refine heldI (TellN.use2 (tell_described (K := _) (vK := vB ++ vA) (nK := _) (.head _) (hkb.append hka) ok hl) (by k_asm) (by k_asm) (by k_asm) (by k_asm) (by k_asm) rfl (by first | exact room1 hd rfl | ktr_room) (by first | exact room1 hu rfl | ktr_units) ?_)
    intro B3 vB3 nB3 hB3 tkB FB NB lB KB
    k_steps
    refine join_list (News.isList NB (.head _)) KB ?_ ?_
    · rw [sum_len, List.length_map, sp_len]; omega
    intro t9 k9
    k_steps
    exact cb_retS hret (join_sp _) (by k_asm) (cb_drop (by k_asm) (by kcj_all))
end
end
-- KbRg
theorem zz_KbRg {prog : Program} {w : World} {A : Around} {env : Env} {E : Value → Shared → Prop} {s : Shared} {Q : Flow → Shared → Prop} (h : Q .next s) : wpAny (model prog w) A (execs [] env) Q E s := by
  k_with_none
  walk1
  exact h
section
/-- a call that raises the signal -/
def TellX (w : World) (f : Addr) (vs : List Value) (news : Led) (d u : Nat) : Prop :=
  ∀ (mean : ExcName → Option Value) (mg mb : Str → Option Value) (dp un : Nat) (gd : Option (List Code)) (cn : Str) (cs : Scope) (a : Addr) (ccd : Value) (cl : List (Str × Addr)) (outer : List Env) (A₀ : Around) (base h₀ : Heap) (L : Addr) (m : Str → Option Value) (s : Shared) (Q E : Value → Shared → Prop),
    Below A₀ base outer h₀ → Fr h₀ L s.heap m → (hd.heap_39 w.params).In h₀ → News h₀ L s.heap news → Top hd.view_39 LS mean mg mb h₀ → cs.kind = .function → dp + d < recursionLimit → un + u < cLine →
    (∀ g e dx od h' tk', Fr h₀ L g m → SigO od → Fly base g (envX cn cs L a ccd cl :: outer) e dx od h' → g.UpToSlots h' → E (.ref e) { s with heap := h', toks := tk' }) →
    wpAny (model PySem.Challenge.pw_np0049_01 w) (ktrTop dp un gd cn cs L a ccd cl outer) (call (.ref f) vs) Q E s
section
theorem kc_c96bdd7a55 : True := by
  k_with_none
  k_with "call ref cons" => (k_here; first
    | ((with_reducible show wpAny _ _ (call (Value.ref 254) _) _ _ _); k_dflt (refine' TellV.use (tell_is_angled_f (by assumption) (by assumption)) ?k1 ?k2 ?k3 ?k4 ?k5 ?kK ?kd ?ku ?_; (case k1 => k_asm); (case k2 => k_asm); (case k3 => k_asm); (case k4 => k_asm); (case k5 => k_asm); (case kK => first | exact rfl | assumption); (case kd => first | exact room1 hd rfl | ktr_room); (case ku => first | exact room1 hu rfl | ktr_units); intro t9 h9 tk9 F9 N9; (try dsimp only); (try k_fold)))
    | ((with_reducible show wpAny _ _ (call (Value.ref 150) _) _ _ _); k_dflt (refine' TellV.use (tell_code_named_none (by assumption)) ?k1 ?k2 ?k3 ?k4 ?k5 ?kK ?kd ?ku ?_; (case k1 => k_asm); (case k2 => k_asm); (case k3 => k_asm); (case k4 => k_asm); (case k5 => k_asm); (case kK => first | exact rfl | assumption); (case kd => first | exact room1 hd rfl | ktr_room); (case ku => first | exact room1 hu rfl | ktr_units); intro t9 h9 tk9 F9 N9; (try dsimp only); (try k_fold))))
  trivial
theorem tell_modified_key_X {w : World} {ls x z : Str} {t u v : Tok} {news : Led} {b : Nat} {r : List Nat} (hx : x.length ≤ 4000) (hz : z.length ≤ 4000) (h : isAngled (Lst x) = false) (hc : codeNamed (Lst x) = none) (hq : Lst x = b :: r) (hb : b ≠ 94) (hr : r ≠ []) :
   TellX w 287 [.str ls t, .str x u, .str z v] news 70 560 := by
  k_with "execs cons" => (k_here; with_reducible refine exs_cons fun _ => ?_; k_fold)
  k_with "call ref" => (k_here; with_reducible refine held_ ?_)
  k_with "exec Raise some none" => (k_here; with_reducible refine held_ ?_)
  have q1 : 2 ≤ x.length := by
    rw [lst_len, hq]
    cases r with
    | nil => exact absurd rfl hr
    | cons _ _ => simp
  have q3 : (Txt.item x 0 == Str.ofString "^") = false := by rw [item_0 hq, one_beq (d := 94) (by decide +kernel)]; exact decide_eq_false hb
  have hfill : (PySem.Challenge.rw_np0049_01, hd.heap_39) = (PySem.Challenge.rw_np0049_01, hd.heap_39) := by k_fill; rfl
  clear hfill
  intro mean mg mb dp un gd cn cs a ccd cl outer A₀ base h₀ L m s Q E B F X N T hk hd hu hret
  refine wpAny_call ?_
  k_dflt (refine' code_defN ?k1 ?k2 ?k3 ?k4 ?k5 ?kA ?kF ?kK ?k6 ?k7 ?k8 ?k9 ?kB ?hl ?_ ?c2 ?c3 ?c4 ?c5; (case kA => exact rfl); (case kF => exact rfl); (case kK => assumption); (case k1 => k_asm); (case k2 => k_asm); (case k3 => k_asm); (case k4 => k_asm); (case k5 => k_asm); (case k6 => k_is); (case k7 => k_is); (case k8 => first | exact room0 hd | ktr_room); (case k9 => exact BindsTo.of_eq rfl); (case c5 => decide); (case kB => exact locs rfl); (case hl => first | exact (rfl : _ = [(_, _)]) | exact (rfl : _ = [(_, _), (_, _)]) | exact (rfl : _ = [(_, _), (_, _), (_, _)]) | exact rfl); (case c2 => exact rfl); (case c3 => exact rfl); (case c4 => exact rfl); k_whole; intro g' L' h' tkE FG' F' N' B' X' T'; (try dsimp only); (try k_lift B'); (try k_fold))
  (change let ev : Env := _; wpAny _ (Around.deeper _ ev) (execs _ ev) _ _ _)
  intro ev
  (change let Ax : Around := _; wpAny _ Ax (execs _ ev) _ _ _)
  intro Ax
  k_steps
  all_goals first
    | (exfalso; have q9 : (Txt.item x 0 == Str.ofString "^") = true := by assumption; rw [q3] at q9; cases q9)
    | (exfalso; omega)
    | skip
  all_goals
    refine heldI (raise_sig rfl ?_)
    k_steps
    refine heldI (tell_bad_word hz mean mg mb _ _ _ _ _ _ _ _ _ _ _ _ _ _ _ _ _ (by k_asm) (by k_asm) (by k_asm) (by k_asm) (by k_asm) rfl (by first | exact room1 hd rfl | ktr_room) (by first | exact room1 hu rfl | ktr_units) ?_)
    intro x1 T1 dx od h1 tk1 F1 N1 hs hf hne
    refine ⟨x1, T1, some dx, rfl, Frag.In.keeps (by k_asm) F1.keep, (N1 _ (.tail _ (.head _))).1, ?_⟩
    refine leave_sig1 (by assumption) F1 N1 hne (fun h2 R U => ?_) (by rfl)
    exact hret _ _ _ _ _ _ (by assumption) hs R U
end
end
-- KbRh
theorem zz_KbRh {prog : Program} {w : World} {A : Around} {env : Env} {E : Value → Shared → Prop} {s : Shared} {Q : Flow → Shared → Prop} (h : Q .next s) : wpAny (model prog w) A (execs [] env) Q E s := by
  k_with_none
  walk1
  exact h
section
section
theorem kc_97b755cf135 : True := by
  k_with_none
  k_with "call ref cons" => (k_here; first
    | ((with_reducible show wpAny _ _ (call (Value.ref 247) _) _ _ _); k_dflt (refine' TellV.use (tell_is_command_word_f (by assumption) (by assumption)) ?k1 ?k2 ?k3 ?k4 ?k5 ?kK ?kd ?ku ?_; (case k1 => k_asm); (case k2 => k_asm); (case k3 => k_asm); (case k4 => k_asm); (case k5 => k_asm); (case kK => first | exact rfl | assumption); (case kd => first | exact room1 hd rfl | ktr_room); (case ku => first | exact room1 hu rfl | ktr_units); intro t9 h9 tk9 F9 N9; (try dsimp only); (try k_fold)))
    | ((with_reducible show wpAny _ _ (call (Value.ref 240) _) _ _ _); k_dflt (refine' TellN.use1 (tell_letters_ahead (by assumption)) ?k1 ?k2 ?k3 ?k4 ?k5 ?kK ?kd ?ku ?_; (case k1 => k_asm); (case k2 => k_asm); (case k3 => k_asm); (case k4 => k_asm); (case k5 => k_asm); (case kK => first | exact rfl | assumption); (case kd => first | exact room1 hd rfl | ktr_room); (case ku => first | exact room1 hu rfl | ktr_units); intro D9 t9 u9 h9 tk9 F9 N9 l9; (try dsimp only); (try k_fold))))
  trivial
theorem tell_word_keys_X {w : World} {x : Str} {t : Tok} {news : Led} {b : Nat} {r : List Nat} (hx : x.length ≤ 4000) (h : isCommand (Lst x) = false) (hs : (splitN (Lst x)).1 ≠ []) (ha : isAngled (splitN (Lst x)).2 = false) (hc : codeNamed (splitN (Lst x)).2 = none) (hq : (splitN (Lst x)).2 = b :: r) (hb : b ≠ 94) (hr : r ≠ []) :
   TellX w 294 [.str x t] news 80 640 := by
  k_with "execs cons" => (k_here; with_reducible refine exs_cons fun _ => ?_; k_fold)
  k_with "call ref" => (k_here; with_reducible refine held_ ?_)
  have q2 : (Tx (splitN (Lst x)).2).length ≤ 4000 := by rw [T_len]; have := split_len (Lst x); rw [lst_len] at hx; omega
  have q4 : (Tx (splitN (Lst x)).1 != Str.ofString "") = true := by
    rw [bne_lst, lst_Tx, nil_lst]; simpa using hs
  have hfill : (PySem.Challenge.rw_np0049_01, hd.heap_39) = (PySem.Challenge.rw_np0049_01, hd.heap_39) := by k_fill; rfl
  clear hfill
  intro mean mg mb dp un gd cn cs a ccd cl outer A₀ base h₀ L m s Q E B F X N T hk hd hu hret
  refine wpAny_call ?_
  k_dflt (refine' code_defN ?k1 ?k2 ?k3 ?k4 ?k5 ?kA ?kF ?kK ?k6 ?k7 ?k8 ?k9 ?kB ?hl ?_ ?c2 ?c3 ?c4 ?c5; (case kA => exact rfl); (case kF => exact rfl); (case kK => assumption); (case k1 => k_asm); (case k2 => k_asm); (case k3 => k_asm); (case k4 => k_asm); (case k5 => k_asm); (case k6 => k_is); (case k7 => k_is); (case k8 => first | exact room0 hd | ktr_room); (case k9 => exact BindsTo.of_eq rfl); (case c5 => decide); (case kB => exact locs rfl); (case hl => first | exact (rfl : _ = [(_, _)]) | exact (rfl : _ = [(_, _), (_, _)]) | exact (rfl : _ = [(_, _), (_, _), (_, _)]) | exact rfl); (case c2 => exact rfl); (case c3 => exact rfl); (case c4 => exact rfl); k_whole; intro g' L' h' tkE FG' F' N' B' X' T'; (try dsimp only); (try k_lift B'); (try k_fold))
  (change let ev : Env := _; wpAny _ (Around.deeper _ ev) (execs _ ev) _ _ _)
  intro ev
  (change let Ax : Around := _; wpAny _ Ax (execs _ ev) _ _ _)
  intro Ax
  k_steps
  refine heldI (tell_modified_key_X (b := b) (r := r) q2 hx (by rw [lst_Tx]; exact ha) (by rw [lst_Tx]; exact hc) (by rw [lst_Tx]; exact hq) hb hr mean mg mb _ _ _ _ _ _ _ _ _ _ _ _ _ _ _ _ _ (by k_asm) (by k_asm) (by k_asm) (by k_asm) (by k_asm) rfl (by first | exact room1 hd rfl | ktr_room) (by first | exact room1 hu rfl | ktr_units) ?_)
  intro g e dx od h1 tk1 F1 hs1 R1 U1
  refine leave_sig2 (by assumption) F1 R1 U1 fun h2 R U => ?_
  exact hret _ _ _ _ _ _ (by assumption) hs1 R U
end
end
-- KbRi
section
section

theorem tell_kbd_X {w : World} {x : Str} {t : Tok} {news : Led} {outs : List (List Key)} {wb : List Nat} {b : Nat} {r : List Nat} (hx : x.length ≤ 4000)
   (hr : ∀ (i : Nat) (w : List Nat), i < outs.length → (wordsOf (Lst x))[i]? = some w → ∃ out, outs[i]? = some out ∧ WordRel w out) (hw : (wordsOf (Lst x))[outs.length]? = some wb) (hout : outs.flatten.length ≤ 16000)
   (hb1 : timesOf wb = some (1, wb)) (hb2 : digitsAt wb ≤ 1) (hb3 : wb.length ≤ 4000) (hb4 : isCommand wb = false) (hb5 : (splitN wb).1 ≠ []) (hb6 : isAngled (splitN wb).2 = false) (hb7 : codeNamed (splitN wb).2 = none) (hb8 : (splitN wb).2 = b :: r) (hb9 : b ≠ 94) (hb10 : r ≠ []) :
   TellX w 301 [.str x t] news 100 800 := by
  k_with_none
  k_with "execs cons" => (k_here; with_reducible refine exs_cons fun _ => ?_; k_fold)
  k_with "call builtin:list.extend" => (k_here; with_reducible refine held_ ?_)
  k_with "call ref" => (k_here; with_reducible refine held_ ?_)
  k_with "binaryOp Mult ref int" => (k_here; with_reducible refine held_ ?_)
  k_with "call type:tuple" => (k_here; with_reducible refine held_ ?_)
  have hfill : (PySem.Challenge.rw_np0049_01, hd.heap_39) = (PySem.Challenge.rw_np0049_01, hd.heap_39) := by k_fill; rfl
  clear hfill
  intro mean mg mb dp un gd cn cs a ccd cl outer A₀ base h₀ L m s Q E B F X N T hk hd hu hret
  refine wpAny_call ?_
  k_dflt (refine' code_defN ?k1 ?k2 ?k3 ?k4 ?k5 ?kA ?kF ?kK ?k6 ?k7 ?k8 ?k9 ?kB ?hl ?_ ?c2 ?c3 ?c4 ?c5; (case kA => exact rfl); (case kF => exact rfl); (case kK => assumption); (case k1 => k_asm); (case k2 => k_asm); (case k3 => k_asm); (case k4 => k_asm); (case k5 => k_asm); (case k6 => k_is); (case k7 => k_is); (case k8 => first | exact room0 hd | ktr_room); (case k9 => exact BindsTo.of_eq rfl); (case c5 => decide); (case kB => exact locs rfl); (case hl => first | exact (rfl : _ = [(_, _)]) | exact (rfl : _ = [(_, _), (_, _)]) | exact (rfl : _ = [(_, _), (_, _), (_, _)]) | exact rfl); (case c2 => exact rfl); (case c3 => exact rfl); (case c4 => exact rfl); k_whole; intro g' L' h' tkE FG' F' N' B' X' T'; (try dsimp only); (try k_lift B'); (try k_fold))
  (change let ev : Env := _; wpAny _ (Around.deeper _ ev) (execs _ ev) _ _ _)
  intro ev
  (change let Ax : Around := _; wpAny _ Ax (execs _ ev) _ _ _)
  intro Ax
  k_steps
  refine heldI (TellN.use2 (tell_words_of hx) (by k_asm) (by k_asm) (by k_asm) (by k_asm) (by k_asm) rfl (by first | exact room1 hd rfl | ktr_room) (by first | exact room1 hu rfl | ktr_units) ?_)
  intro W vW nW hW tkW FW NW lW KW
  k_steps
  refine heldI (iter_listN (fun i m nx => kbdJ W _ _ news outs i m nx ∧ i ≤ outs.length) (by rfl) (.head _) (by k_asm) (by k_asm) (fun i m nx h => kbdJ_keep W _ _ _ _ i m nx h.1) ⟨⟨[], 0, rfl, rfl, .nil⟩, Nat.zero_le _⟩ ?_ ?_)
  · rintro i v m₁ nx h tk own hv hadr hoff ⟨⟨vs, n, rfl, hm, hV⟩, hile⟩ F₁ N₁
    obtain ⟨m', rfl⟩ := map1 hm
    obtain ⟨s, ts, rfl, hs⟩ := strs_at KW hv
    have hs' : (wordsOf (Lst x))[i]? = some (Lst s) := by
      rw [List.getElem?_map] at hs
      obtain ⟨q, hq, e⟩ := Option.map_eq_some_iff.mp hs
      rw [hq, ← e, lst_Tx]
    rcases Nat.lt_or_eq_of_le hile with hilt | hieq
    case inr =>
      rw [hieq] at hs'
      have hsb : Lst s = wb := Option.some.inj (hs'.symm.trans hw)
      subst hsb
      k_steps
      refine heldI (TellN.use1 (tell_times_of (by rw [lst_len]; exact hb3) hb2 hb1) (by k_asm) (by k_asm) (by k_asm) (by k_asm) (by k_asm) rfl (by first | exact room1 hd rfl | ktr_room) (by first | exact room1 hu rfl | ktr_units) ?_)
      intro T tt ut hT tkT FT NT lT
      k_steps
      refine heldI (tell_word_keys_X (x := Tx (Lst s)) (b := b) (r := r) (by rw [T_len]; exact hb3) (by rw [lst_Tx]; exact hb4) (by rw [lst_Tx]; exact hb5) (by rw [lst_Tx]; exact hb6) (by rw [lst_Tx]; exact hb7) (by rw [lst_Tx]; exact hb8) hb9 hb10 mean mg mb _ _ _ _ _ _ _ _ _ _ _ _ _ _ _ _ _ (by k_asm) (by k_asm) (by k_asm) (by k_asm) (by k_asm) rfl (by first | exact room1 hd rfl | ktr_room) (by first | exact room1 hu rfl | ktr_units) ?_)
      intro g e dx od h1 tk1 F1 hs1 R1 U1
      refine leave_sig2 (by assumption) F1 R1 U1 fun h2 R U => ?_
      exact hret _ _ _ _ _ _ (by assumption) hs1 R U
    obtain ⟨out, ho, cn, r, kk, h1, h2, h3, h4, h5, h6, h7, h8⟩ := hr i _ hilt hs'
    k_steps
    refine heldI (TellN.use1 (tell_times_of (by rw [lst_len]; exact h7) h2 h1) (by k_asm) (by k_asm) (by k_asm) (by k_asm) (by k_asm) rfl (by first | exact room1 hd rfl | ktr_room) (by first | exact room1 hu rfl | ktr_units) ?_)
    intro T tt ut hT tkT FT NT lT
    have hn : (cn : Int) ≤ 9 := by omega
    have hn0 : 0 ≤ (cn : Int) := by omega
    k_steps
    refine heldI (TellN.use2 (tell_word_keys (x := Tx r) (by rw [T_len]; exact h8) (by rw [lst_Tx]; exact h3)) (by k_asm) (by k_asm) (by k_asm) (by k_asm) (by k_asm) rfl (by first | exact room1 hd rfl | ktr_room) (by first | exact room1 hu rfl | ktr_units) ?_)
    intro B vB nB hB tkB FB NB lB KB
    have hvB : vB.length ≤ 1000 := by rw [KB.len]; exact h6
    have hcn : ((cn : Int)).toNat = cn := by omega
    k_steps
    refine heldI (mul_listD (by k_asm) (by k_asm) (by k_mem) (by omega) (by omega) ?_ fun D3 hD3 F3 N3 l3 => ?_)
    · rw [hcn]; exact Nat.le_trans (Nat.mul_le_mul hvB h5) (by decide)
    rw [hcn] at N3
    have hK := keys_rep KB cn
    rw [← h4] at hK
    have hstep : (outs.take (i + 1)).flatten = (outs.take i).flatten ++ out := by rw [List.take_add_one, ho]; simp
    have hlen2 := flat_take_len outs (i + 1)
    rw [hstep, List.length_append, ← hV.len, ← hK.len] at hlen2
    k_steps
    refine heldI (extendD (rest := (W, listOf vW.toArray nW) :: (news ++ own)) (by k_asm) (by k_asm) (by k_mem) (by k_mem) (by kstt_sub) (kbd_off lW (by assumption) hoff) (by omega) fun n' h4' F4 N4 => ?_)
    k_steps
    refine InvEndN.intro (by k_asm) (by k_asm) ⟨⟨vs ++ (List.replicate cn vB).flatten, n', rfl, by rfl, ?_⟩, hilt⟩ rfl (by kstt_sub) (by kstt_sub)
    rw [hstep]
    exact hV.append hK
  · rintro m₁ nx h tk ⟨_, hle⟩ F₁ N₁
    exfalso
    have hl : vW.length = (wordsOf (Lst x)).length := by rw [KW.length, List.length_map]
    have := (List.getElem?_eq_some_iff.mp hw).1
    omega
end
end
-- KbRl
section
section
variable {prog : Program} {w : World} {A A₀ : Around} {s : Shared} {K : Frag} {L : Addr} {h₀ base : Heap} {m mg mb : Str → Option Value} {news : List (Addr × Obj)} {p : Program} {loose : List Str} {mean : ExcName → Option Value}
theorem code_defR {env : Env} {outer : List Env} {R : Result → Shared → Prop} {name qual : Str} {params : Arguments} {body : List Stmt} {scope : Scope} {dV kV doc pm cdv ct oc : Value} {an od : Option Addr} {osl : Array (Option Value)} {f : Addr} {args : Args} {binds : List (Str × Value)}
    (B : Below A₀ base outer h₀) (F : Fr h₀ L s.heap m) (X₀ : K.In h₀) (N : News h₀ L s.heap news) (T : Top p loose mean mg mb h₀) (hA : A.frames = some (env :: outer)) (hf : env.frame = some L) (hke : env.scope.kind = .function)
    (ho : K.lookup f = some ⟨oc, od, .func (fnOf name qual params body scope dV kV doc pm an cdv ct), osl⟩) (hcd : codeIn K cdv qual = true) (hroom : A.depth < recursionLimit)
    (hbind : BindsTo s (fnOf name qual params body scope dV kV doc pm an cdv ct) args binds) (hloc : ∀ y ∈ binds, scope.names.lookup y.1 = some .local)
    (h : ∀ g L' h₁, Fr h₀ L g m → Fr g L' h₁ (fun y => binds.reverse.lookup y) → News g L' h₁ news → Below A base (env :: outer) g → K.In g → Top p loose mean mg mb g →
      wpAny (model prog w) (A.deeper (envOf qual scope L' f cdv)) (execs body (envOf qual scope L' f cdv))
        (fun fl s' => R (.ok (.ret (match fl with | .ret v => v | _ => .none))) s')
        (fun e s' => wpAny (model prog w) (A.deeper (envOf qual scope L' f cdv)) (leaving (envOf qual scope L' f cdv) e) (fun _ s'' => R (.error e) s'') (fun e' s'' => R (.error e') s'') s')
        { s with heap := h₁, toks := s.toks + binds.length })
    (hco : scope.isCoroutine = false) (hgen : scope.isGenerator = false) (hk : scope.kind = .function)
    (hcell : ∀ x ∈ scope.names, x.2 ≠ .cell) : codeAny (model prog w) A (.call (.ref f) args) R s := by
  obtain ⟨FG, BG, st, _⟩ := groundX (R := R) B F N hA hf hke
  have X := X₀.keeps F.keep
  refine codeAny_call_def (fd := fnOf name qual params body scope dV kV doc pm an cdv ct) (body := body) (binds := binds) hroom (X _ _ ho) rfl (T.nolimit.keeps F.keep) (codeRec_of X hcd) rfl hbind hcell hloc (fun h₁ hns hk₁ => ?_) hco hgen hk
  exact h _ s.heap.objs.size h₁ FG ⟨hns, fun b o e => hk₁ b o (of_hideAll _ e), Nat.le_of_eq (hideAll_size _ _)⟩
    (fun p hp => ⟨hk₁ _ _ (N p hp).1, Nat.ne_of_lt (Heap.lt_size (N p hp).1), hideAll_none _ (List.mem_map_of_mem hp)⟩) BG (X₀.keeps st) (T.keeps st)
end
theorem frame_back {h₀ g g' h' : Heap} {L L' : Addr} {m m' : Str → Option Value} (F : Fr h₀ L g m) (T : KtsTurn [L] g g') (F' : Fr g' L' h' m') : Fr h₀ L h' m := by
  obtain ⟨oL, es, ep, eL, dL, r⟩ := F.ns
  obtain ⟨sl, hs⟩ := T.frame _ _ eL (.head _)
  refine ⟨⟨_, es, ep, F'.keep _ _ hs, dL, r⟩, fun b o e => F'.keep _ _ (T.other b o (F.keep b o e) fun hm => ?_), F.above⟩
  rw [List.mem_singleton.mp hm, kts_self F] at e
  cases e
/-- a call that refuses -/
def TellR (w : World) (f : Addr) (vs : List Value) (d u : Nat) : Prop :=
  ∀ (mean : ExcName → Option Value) (mg mb : Str → Option Value) (dp un : Nat) (gd : Option (List Code)) (cn : Str) (cs : Scope) (a : Addr) (ccd : Value) (cl : List (Str × Addr)) (A₀ : Around) (h₀ : Heap) (L : Addr) (m : Str → Option Value) (s : Shared) (Q E : Value → Shared → Prop),
    Below A₀ h₀ [] h₀ → Fr h₀ L s.heap m → (hd.heap_39 w.params).In h₀ → Top hd.view_39 LS mean mg mb h₀ → cs.kind = .function → dp + d < recursionLimit → un + u < cLine →
    (∀ h' tk', Fr h₀ L h' m → Q (.bool true) { s with heap := h', toks := tk' }) →
    wpAny (model PySem.Challenge.pw_np0049_01 w) (ktrTop dp un gd cn cs L a ccd cl []) (call (.ref f) vs) Q E s
theorem sig_sym {w : World} {A : Around} {E : Value → Shared → Prop} {s : Shared} {g : Heap} {L e dx : Addr} {m : Str → Option Value} {oe od : Obj} {vs : Array Value} {expr : Bool} {Q : Value → Shared → Prop} (X : (hd.heap_39 w.params).In g) (F : Fr g L s.heap m) (N : News g L s.heap [(e, oe), (dx, od)]) (c1 : oe.cls = .ref 31) (c2 : oe.dict = some dx) (c3 : oe.data = .fields vs) (hs : SigO od)
    (h : ∀ t, Q (.str (Str.ofString "error") t) { s with toks := s.toks + 1 }) : wpAny (model PySem.Challenge.pw_np0049_01 w) A (getAttr (.ref e) (Str.ofString "symbol") expr) Q E s := by
  obtain ⟨nm, q, bs, sn, sub, ab, col, dd, k0, k1, k2, k3, k5, hC⟩ := cls31 (X.keeps F.keep)
  obtain ⟨mN, hn, _, _, hna, _, hng, hnh⟩ := ns30 (X.keeps F.keep)
  obtain ⟨es, n, d1, d2, t, d3⟩ := hs
  obtain ⟨hp, g, d, tk, os⟩ := s
  exact sig_load hC hn hna hng hnh (lk_none (by kernel_rfl)) (N _ (.head _)).1 c1 c2 c3 ⟨od, es, n, (N _ (.tail _ (.head _))).1, d1, d2, fun _ => rfl⟩ d3 rfl (h t)
section
theorem tell_law_refused {w : World} {x : Str} {t : Tok} (hX : TellX w 301 [.str x t] [] 100 800) : TellR w 364 [.str x t] 110 900 := by
  k_with_none
  k_with "call ref" => (k_here; with_reducible refine held_ ?_)
  k_with "noteFrame ref" => (k_here; with_reducible refine held_ ?_)
  k_with "getAttr ref true" => (k_here; with_reducible refine held_ ?_)
  have hfill : (PySem.Challenge.rw_np0049_01, hd.heap_39) = (PySem.Challenge.rw_np0049_01, hd.heap_39) := by k_fill; rfl
  clear hfill
  intro mean mg mb dp un gd cn cs a ccd cl A₀ h₀ L m s Q E B F X T hk hd hu hret
  have N : News h₀ L s.heap [] := News.nil
  refine wpAny_call ?_
  k_dflt (refine' code_defR ?k1 ?k2 ?k3 ?k4 ?k5 ?kA ?kF ?kK ?k6 ?k7 ?k8 ?k9 ?kB ?_ ?c2 ?c3 ?c4 ?c5; (case kA => exact rfl); (case kF => exact rfl); (case kK => assumption); (case k1 => k_asm); (case k2 => k_asm); (case k3 => k_asm); (case k4 => k_asm); (case k5 => k_asm); (case k6 => k_is); (case k7 => k_is); (case k8 => ktr_room); (case k9 => exact BindsTo.of_eq rfl); (case c5 => decide); (case kB => exact locs rfl); (case c2 => exact rfl); (case c3 => exact rfl); (case c4 => exact rfl); k_whole; intro g' L' h' FG' F' N' B' X' T'; (try dsimp only); (try k_lift B'); (try k_fold))
  k_steps
  refine heldI (hX mean mg mb _ _ _ _ _ _ _ _ _ _ _ _ _ _ _ _ _ (by k_asm) (by k_asm) (by k_asm) (by k_asm) (by k_asm) rfl (by first | exact room1 hd rfl | ktr_room) (by first | exact room1 hu rfl | ktr_units) ?_)
  intro g e dx od h1 tk1 F1 hs1 R1 U1
  dsimp only
  refine caught_sig R1 hs1 F1 (by assumption) U1 (by k_asm) (by assumption) (by rfl) (fun h2 g2 oe tk2 T2 F2 N2 ⟨c1, c2, vs, c3⟩ B2 X2 P2 => ?_) (by rfl) (by rfl) (by rfl) (by decide)
  k_steps
  refine heldI (sig_sym X2 (by k_asm) N2 c1 c2 c3 hs1 fun t3 => ?_)
  k_steps
  rw [show (Str.ofString "error" == Str.ofString "error") = true from by decide +kernel]
  exact hret _ _ (frame_back FG' T2 (by k_asm))
end
end
-- KbRm
section
noncomputable def refText : List (List Nat) := [[67, 45, 120, 121], [77, 45, 60, 117, 112], [65, 45, 67, 45, 97, 98, 32, 120], [97, 32, 83, 45, 82, 69, 84, 88]]
theorem tx_C : Str.ofString "C-xy" = Tx [67, 45, 120, 121] := by decide +kernel
theorem tx_M : Str.ofString "M-<up" = Tx [77, 45, 60, 117, 112] := by decide +kernel
theorem tx_A : Str.ofString "A-C-ab x" = Tx [65, 45, 67, 45, 97, 98, 32, 120] := by decide +kernel
theorem tx_a : Str.ofString "a S-RETX" = Tx [97, 32, 83, 45, 82, 69, 84, 88] := by decide +kernel
theorem refuse_C {w : World} {t : Tok} {news : Led} : TellX w 301 [.str (Tx [67, 45, 120, 121]) t] news 100 800 :=
  tell_kbd_X (outs := []) (wb := [67, 45, 120, 121]) (b := 120) (r := [121]) (by decide) (fun i w h => absurd h (Nat.not_lt_zero _)) (by rw [lst_Tx]; decide +kernel) (by decide) (by decide +kernel) (by decide +kernel) (by decide) (by decide +kernel) (by decide +kernel) (by decide +kernel) (by decide +kernel) (by decide +kernel) (by decide) (by decide)
theorem refuse_M {w : World} {t : Tok} {news : Led} : TellX w 301 [.str (Tx [77, 45, 60, 117, 112]) t] news 100 800 :=
  tell_kbd_X (outs := []) (wb := [77, 45, 60, 117, 112]) (b := 60) (r := [117, 112]) (by decide) (fun i w h => absurd h (Nat.not_lt_zero _)) (by rw [lst_Tx]; decide +kernel) (by decide) (by decide +kernel) (by decide +kernel) (by decide) (by decide +kernel) (by decide +kernel) (by decide +kernel) (by decide +kernel) (by decide +kernel) (by decide) (by decide)
theorem refuse_A {w : World} {t : Tok} {news : Led} : TellX w 301 [.str (Tx [65, 45, 67, 45, 97, 98, 32, 120]) t] news 100 800 :=
  tell_kbd_X (outs := []) (wb := [65, 45, 67, 45, 97, 98]) (b := 97) (r := [98]) (by decide) (fun i w h => absurd h (Nat.not_lt_zero _)) (by rw [lst_Tx]; decide +kernel) (by decide) (by decide +kernel) (by decide +kernel) (by decide) (by decide +kernel) (by decide +kernel) (by decide +kernel) (by decide +kernel) (by decide +kernel) (by decide) (by decide)
theorem refuse_a {w : World} {t : Tok} {news : Led} : TellX w 301 [.str (Tx [97, 32, 83, 45, 82, 69, 84, 88]) t] news 100 800 :=
  tell_kbd_X (outs := [[.inl 97]]) (wb := [83, 45, 82, 69, 84, 88]) (b := 82) (r := [69, 84, 88]) (by decide) (fun i w h hw => by
    obtain rfl : i = 0 := by simp only [List.length_cons, List.length_nil] at h; omega
    rw [lst_Tx] at hw
    have e : (wordsOf [97, 32, 83, 45, 82, 69, 84, 88])[0]? = some [97] := by decide +kernel
    obtain rfl : w = [97] := Option.some.inj (hw.symm.trans e)
    exact ⟨_, rfl, 1, [97], [.inl 97], by decide +kernel, by decide +kernel, by decide +kernel, rfl, by decide, by decide, by decide, by decide⟩) (by rw [lst_Tx]; decide +kernel) (by decide) (by decide +kernel) (by decide +kernel) (by decide) (by decide +kernel) (by decide +kernel) (by decide +kernel) (by decide +kernel) (by decide +kernel) (by decide) (by decide)
theorem tell_refused {w : World} {r : Value} {u0 u1 u2 u3 : Tok} (h : r ∈ [Value.str (Str.ofString "C-xy") u0, Value.str (Str.ofString "M-<up") u1, Value.str (Str.ofString "A-C-ab x") u2, Value.str (Str.ofString "a S-RETX") u3]) : TellR w 364 [r] 110 900 := by
  simp only [List.mem_cons, List.not_mem_nil, or_false] at h
  rcases h with rfl | rfl | rfl | rfl
  · rw [tx_C]; exact tell_law_refused refuse_C
  · rw [tx_M]; exact tell_law_refused refuse_M
  · rw [tx_A]; exact tell_law_refused refuse_A
  · rw [tx_a]; exact tell_law_refused refuse_a
end
local macro_rules | `(tactic| k_updF) => `(tactic| first | exact UpdF.head (by assumption) | (refine' UpdF.tail ?a ?b; (case a => k_ne); (case b => k_updF)))
-- KbYa
section
-- noexs
open PySem.Spec PySem.Calls PyProof.Rows.LCg
noncomputable def keyFd (p : Params) : Option FuncData := match (hd.heap_39 p).lookup 343 with
  | some ⟨_, _, .func f, _⟩ => some f
  | _ => none
noncomputable def keyBody (p : Params) : List Stmt := match keyFd p with
  | some f => (match f.body with | .stmts b => b | _ => [])
  | none => []
noncomputable def keyScope (p : Params) : Scope := match keyFd p with
  | some f => f.scope
  | none => default
noncomputable abbrev keyEnv (p : Params) (L : Addr) : Env := envOfC (Str.ofString "_law_key") (keyScope p) L 343 (.ref 342)
theorem stC0 {M : Model} {A : Around} {E : Value → Shared → Prop} {s : Shared} {name : Str} {scope : Scope} {L a : Addr} {cd : Value} {h₀ : Heap} {m : Str → Option Value} {x : Str} {c : Addr} {o : Obj} {v₀ : Option Value} {v : Value} {rest : Led} {Q : Unit → Shared → Prop} (F : Fr h₀ L s.heap m) (N : News h₀ L s.heap ((c, o) :: rest))
    (hc : (cellsFrom (L + 1) scope.names []).lookup x = some c) (hd : o.data = .cell v₀) (h2 : ∀ p ∈ rest, p.1 ≠ c)
    (h : ∀ h' o', Fr h₀ L h' m → News h₀ L h' ((c, o') :: rest) → o'.data = .cell (some v) → Q () { s with heap := h' })
    (hk : scope.kind = .function) (hl : (envOfC name scope L a cd).kindOf x = some .cell) : wpAny M A (storeName (envOfC name scope L a cd) x v) Q E s :=
  stCN (own := []) F N hc hd (fun _ h => nomatch h) h2 h hk hl
theorem law_sign_le {c : Nat} (h : c ∈ lawSigns) : c ≤ 122 := by
  have := List.all_eq_true.mp (by decide : lawSigns.all (fun c => decide (c ≤ 122)) = true) c h
  simpa using this
theorem or_in {ls : List Nat} {c : Nat} (h : ls.contains c = true ∨ (Tx [c] == Str.ofString "C") = true) : (ls.contains c || c == 67) = true := by
  rcases h with h | h
  · rw [h]; rfl
  · rw [beq_lst, show Lst (Str.ofString "C") = [67] from by decide +kernel, lst_Tx] at h
    have : c = 67 := by simpa using h
    subst this; simp
theorem or_out {ls : List Nat} {c : Nat} (h : ls.contains c = false) (h2 : (Tx [c] == Str.ofString "C") = false) : (ls.contains c || c == 67) = false := by
  rw [beq_lst, show Lst (Str.ofString "C") = [67] from by decide +kernel, lst_Tx] at h2
  rw [h]
  simpa using h2
theorem marks_small (ls : List Nat) : (((((modL.take 6).filter fun c => ls.contains c || c == 67).map fun c => [c, 45]).map Tx).map (·.length)).sum + ((((modL.take 6).filter fun c => ls.contains c || c == 67).map fun c => [c, 45]).map Tx).length * (Str.ofString "").length ≤ 16777216 :=
  small_pairs _ (Nat.le_trans (List.length_filter_le _ _) (by decide))
theorem any_sign {c : Nat} {b : Bool} (h : c ∈ lawSigns) (e : ([97, 122, 65, 64, 94] : List Int).any (fun x => x == (c : Int)) = b) : [97, 122, 65, 64, 94].contains c = b := by
  rw [← e]
  have := List.all_eq_true.mp (by decide : lawSigns.all (fun c => [97, 122, 65, 64, 94].contains c == ([97, 122, 65, 64, 94] : List Int).any (fun x => x == (c : Int))) = true) c h
  exact eq_of_beq this
section

variable {w : World} {D S : Addr} {k k2 : Int} {t2 tx tm tb tl : Tok} {n2 : Nat} {news : Led} {mean : ExcName → Option Value} {mg mb : Str → Option Value} {dp un : Nat} {gd : Option (List Code)} {cn : Str} {cs : Scope} {a L L' : Addr} {ccd : Value} {cl : List (Str × Addr)} {outer : List Env} {base g' : Heap} {o2 o3 : Obj} {ls : List Nat} {m : Str → Option Value} {s : Shared} {Q : Flow → Shared → Prop} {E : Value → Shared → Prop}
set_option maxHeartbeats 16000000 in
theorem key_p1 {t0 : Tok} {n0 : Nat} {o1 : Obj} {m0 : Str → Option Value} (hk0 : 0 ≤ k) (hk1 : k ≤ 900) (hS : ScriptAt S news) (hoff : ∀ p ∈ news, p.1 ≠ D) (X' : (hd.heap_39 w.params).In g') (T' : Top hd.view_39 LS mean mg mb g') (B' : Below (ktrTop dp un gd cn cs L a ccd cl outer) base (envX cn cs L a ccd cl :: outer) g') (hd1 : dp + 12 < recursionLimit) (hu1 : un + 96 < cLine)
    (F0 : Fr g' L' s.heap m0) (l1 : @LT.lt Nat _ D L' ∧ AllLt L' news) (N' : News g' L' s.heap ((L' + 1 + 1, o1) :: (L' + 1, o2) :: (D, deckO S k t0 n0) :: news)) (e1 : o1.data = .cell none) (e2 : o2.data = .cell (some (.ref D)))
    (ret : ∀ x tx ls tl tm tb k2 t2 n2 o3 m h' tk', 0 ≤ x → x < 5 → ls ∈ subsOf modL → o3.data = .cell (some (.str (Tx ls) tl)) → Fr g' L' h' m → m (Str.ofString "kind") = some (.int x tx) → m (Str.ofString "marks") = some (.str (Tx (rawMarks ls)) tm) → m (Str.ofString "bits") = some (.int (bitsSum ls) tb) → News g' L' h' ((L' + 1 + 1, o3) :: (L' + 1, o2) :: (D, deckO S k2 t2 n2) :: news) → k ≤ k2 → k2 ≤ k + 7 →
      wpAny (model PySem.Challenge.pw_np0049_01 w) ((ktrTop dp un gd cn cs L a ccd cl outer).deeper (keyEnv w.params L')) (execs ((keyBody w.params).drop 4) (keyEnv w.params L')) Q E { s with heap := h', toks := tk' }) :
    wpAny (model PySem.Challenge.pw_np0049_01 w) ((ktrTop dp un gd cn cs L a ccd cl outer).deeper (keyEnv w.params L')) (execs (keyBody w.params) (keyEnv w.params L')) Q E s := by
  k_with_none
  k_with "storeName str" => (k_here; k_dflt (refine' stC0 ?F ?N ?c ?d ?h2 ?_ ?a ?b; (case a => exact rfl); (case b => exact rfl); (case F => k_asm); (case N => k_asm); (case c => exact rfl); (case d => assumption); (case h2 => assumption)); intro _ _ _ _ _)
  k_with "call ref" => (k_here; with_reducible refine held_ ?_)
  k_with "call builtin:sum" => (k_here; with_reducible refine held_ ?_)
  k_with "eval IfExp" => (k_here; with_reducible refine held_ ?_)
  k_with "eval ListComp" => (k_here; (with_reducible show wpAny _ _ (eval (.ListComp _ [⟨.Name _ _, _, [], 0⟩] _ _) _) _ _ _); k_dflt (refine' comp_evalN0 ?F ?k1 ?k2 ?k3 ?k4 ?k5 ?_ (by intro _; rfl); (case F => k_asm); (case k1 => with_unfolding_all rfl); (case k2 => decide); (case k3 => rfl); (case k4 => decide); (case k5 => rfl)))
  k_with "eval ListComp" => (k_here; (with_reducible show wpAny _ _ (eval (.ListComp _ [⟨.Tuple [.Name _ _, .Name _ _] _ _, _, [_], 0⟩] _ _) _) _ _ _); k_dflt (refine' comp_evalP1 ?F ?k1 ?k2 ?k3 ?k4 ?k5 ?k6 ?_ (by intro _; rfl); (case F => k_asm); (case k1 => with_unfolding_all rfl); (case k2 => decide); (case k3 => rfl); (case k4 => decide); (case k5 => rfl); (case k6 => rfl)))
  k_with "execs cons" => (k_here; (with_reducible show wpAny _ _ (execs (Stmt.If _ _ _ _ :: _) _) _ _ _); with_reducible refine held_ ?_)
  have hfill : (PySem.Challenge.rw_np0049_01, hd.heap_39) = (PySem.Challenge.rw_np0049_01, hd.heap_39) := by k_fill; rfl
  clear hfill
  have hd := hd1
  have hu := hu1
  clear hd1 hu1
  change wpAny _ (Around.deeper _ (envOfC _ (Scope.mk _ _ _ _ _) _ _ _)) (execs (_ :: _) (envOfC _ (Scope.mk _ _ _ _ _) _ _ _)) _ _ _
  (change let ev : Env := _; wpAny _ (Around.deeper _ ev) (execs _ ev) _ _ _)
  intro ev
  (change let Ax : Around := _; wpAny _ Ax (execs _ ev) _ _ _)
  intro Ax
  k_steps
  refine heldI (TellD.use (tell_draw' (news := (L' + 1 + 1, o1) :: (L' + 1, o2) :: news) hk0 (by omega) (hS.mono fun p hp => .tail _ (.tail _ hp)) (by decide) (by decide) (cells_off l1 hoff)) (by k_asm) (by k_asm) (by k_asm) (perm3 (by k_asm)) (by k_asm) rfl (by first | exact room1 hd rfl | ktr_room) (by first | exact room1 hu rfl | ktr_units) ?_)
  rintro _ k1 t1 n1 h1 tk1 F1 N1 hk2 hk3 ⟨x, tx, rfl, hx0, hx1⟩
  try dsimp only
  k_steps
  refine heldI (TellM.use tell_law_bits (by k_asm) (by k_asm) (by k_asm) (by k_asm) (by k_asm) rfl (by first | exact room1 hd rfl | ktr_room) (by first | exact room1 hu rfl | ktr_units) ?_)
  rintro A nA tps hA tkA FA NA lA hbits
  try dsimp only
  k_steps
  have hdA : D ≠ A := (lA (D, deckO S k1 t1 n1) (.head _)).1
  have hdT : ∀ q ∈ tps, D ≠ q.1 := (lA (D, deckO S k1 t1 n1) (.head _)).2
  refine heldI (comp_pairs (news := (D, deckO S k1 t1 n1) :: (A, refsOf tps nA) :: (tupsOf tps ++ ((L' + 1 + 1, o1) :: (L' + 1, o2) :: news))) (drawJ D S ((A, refsOf tps nA) :: (tupsOf tps ++ ((L' + 1 + 1, o1) :: (L' + 1, o2) :: news))) k1) drawJ_adr (by rfl) (by k_asm) (cb_drop (by k_asm) (by kstt_sub)) (.tail _ (.head _)) (fun p hp => .tail _ (.tail _ (List.mem_append_left _ (List.mem_map_of_mem hp)))) (by rw [hbits.1]; decide +kernel) (by decide) ⟨k1, t1, n1, rfl, by omega, by omega, [], .slnil, .nil⟩ ?_ ?_)
  · rintro i T x' y' ys nx own I C oC Dc m₂ h tk E' hTi hma hmb ⟨k2, t2, n2, rfl, hk4, hk5, ls, hls, hys⟩ hown hne hN F₂ N₂
    obtain ⟨c, tc, uc, hc, rfl, rfl⟩ := hbits.2 _ _ _ _ hTi
    dsimp only [CTest]
    have N₃ : News g' L' h ((L' + 1 + 1, o1) :: (L' + 1, o2) :: (C, oC) :: (Dc, lst ys) :: (D, deckO S k2 t2 n2) :: (A, refsOf tps nA) :: (tupsOf tps ++ news ++ own)) := cb_drop N₂ (by kstt_sub)
    clear N₂
    k_steps
    refine heldI (TellD.use (tell_draw' (k := k2) (t0 := t2) (n0 := n2) (news := (L' + 1 + 1, o1) :: (L' + 1, o2) :: (C, oC) :: (Dc, lst ys) :: (A, refsOf tps nA) :: (tupsOf tps ++ news ++ own)) (by omega) (by have := hbits.1; have := (List.getElem?_eq_some_iff.mp hTi).1; omega) (hS.mono (by kstt_sub)) (by decide) (by decide) (comp_off l1 hoff hdA hdT hne hown)) (by k_asm) (by k_asm) (by k_asm) (cb_drop (by k_asm) (by kstt_sub)) (by k_asm) rfl (by first | exact room1 hd rfl | ktr_room) (by first | exact room1 hu rfl | ktr_units) ?_)
    rintro _ k3 t3 n3 h3 tk3 F3 N3 hk6 hk7 ⟨x3, tx3, rfl, hx4, hx5⟩
    try dsimp only
    k_steps
    · exact TEndJ.intro (by k_asm) (by k_asm) (by kstt_sub) (drawJ_yes (k' := k3) (t' := t3) (n' := n3) (by omega) (by omega) hc hls hys)
    · exact TEndJ.intro (by k_asm) (by k_asm) (by kstt_sub) (drawJ_no (k' := k3) (t' := t3) (n' := n3) (by omega) (by omega) hls hys)
    all_goals trace_state
    all_goals w_report
  · rintro Dl h tk ys nx ⟨k2, t2, n2, rfl, hk4, hk5, ls, hls, hys⟩ F₂ N₂ hne
    have hsub := sub_mem hls
    have hll : ls.length ≤ 6 := (sub_facts hsub).1
    k_steps
    refine join_list (N₂.isList (.head _)) hys (ones_small ls (by omega)) ?_
    intro t9 k9
    rw [join_ones]
    have N₃ : News g' L' h ((L' + 1 + 1, o1) :: (L' + 1, o2) :: (D, deckO S k2 t2 n2) :: news) := cb_drop N₂ (by kstt_sub)
    clear N₂ hne
    have hoffc : ∀ p ∈ (L' + 1, o2) :: (D, deckO S k2 t2 n2) :: news, p.1 ≠ L' + 1 + 1 := lcell_off l1
    k_steps
    refine heldI (comp_str (fun i ys => StrsAre ys (((ls.take i).map fun c => [c, 45]).map Tx)) (by rfl) (by k_asm) (by k_asm) (by rw [T_len]; exact Nat.le_trans hll (by decide +kernel)) .nil ?_ ?_)
    · intro i cc u ys own C oC Dc m₂ h tk E' hcc hJ hN hm F9 N9
      dsimp only [CTest]
      k_steps
      exact TEnd.intro (by k_asm) (by k_asm) (fun _ h => h) (dash_step hcc hJ)
    rename_i o3 _ _ d3
    intro D1 h tk ys hJ F9 N9 o9
    k_steps
    refine join_list (N9.isList (.head _)) hJ (small_pairs _ (by rw [List.length_take, T_len]; omega)) ?_
    intro t10 k10
    rw [join_marks (by rw [T_len])]
    have N10 : News g' L' h ((L' + 1 + 1, o3) :: (L' + 1, o2) :: (D, deckO S k2 t2 n2) :: news) := cb_drop N9 (by kstt_sub)
    clear N9 o9
    k_steps
    refine heldI (TellM.use tell_law_bits (by k_asm) (by k_asm) (by k_asm) (by k_asm) (by k_asm) rfl (by first | exact room1 hd rfl | ktr_room) (by first | exact room1 hu rfl | ktr_units) ?_)
    rintro A2 nA2 tps2 hA2 tkA2 FA2 NA2 lA2 hbits2
    try dsimp only
    k_steps
    refine heldI (comp_pairs (news := (A2, refsOf tps2 nA2) :: (tupsOf tps2 ++ ((L' + 1 + 1, o3) :: (L' + 1, o2) :: (D, deckO S k2 t2 n2) :: news))) (fun i zs nx => nx = (A2, refsOf tps2 nA2) :: (tupsOf tps2 ++ ((L' + 1 + 1, o3) :: (L' + 1, o2) :: (D, deckO S k2 t2 n2) :: news)) ∧ IntsAre zs (((modL.take i).filter fun c => ls.contains c).map bitL)) (by rintro i ys nx ⟨rfl, _⟩; rfl) (by rfl) (by k_asm) (by k_asm) (.head _) (fun p hp => .tail _ (List.mem_append_left _ (List.mem_map_of_mem hp))) (by rw [hbits2.1]; decide +kernel) (by decide) ⟨rfl, .nil⟩ ?_ ?_)
    · rintro i T x' y' ys nx own I C oC Dc m₂ h tk E' hTi hma hmb ⟨rfl, hys⟩ hown hne hN F₂ N₂
      obtain ⟨c, tc, uc, hc, rfl, rfl⟩ := hbits2.2 _ _ _ _ hTi
      dsimp only [CTest]
      have N₃ : News g' L' h ((L' + 1 + 1, o3) :: (L' + 1, o2) :: (C, oC) :: (Dc, lst ys) :: (A2, refsOf tps2 nA2) :: (tupsOf tps2 ++ ((D, deckO S k2 t2 n2) :: (news ++ own)))) := cb_drop N₂ (by kstt_sub)
      clear N₂
      k_steps
      · exact TEndJ.intro (by k_asm) (by k_asm) (by kstt_sub) ⟨rfl, bit_sum_step (t := 0) false (o_in (by assumption)) hc hys⟩
      · exact TEndJ.intro (by k_asm) (by k_asm) (by kstt_sub) ⟨rfl, bit_sum_step true (o_in (by assumption)) hc hys⟩
    rintro D2 h tk zs nx ⟨rfl, hzs⟩ F₂ N₂ hne
    rw [hbits2.1] at hzs
    k_steps
    refine heldI (sumK (by rfl) (by k_asm) (by k_asm) (N₂.isList (.head _)) hzs fun h12 tk12 t12 F12 N12 => ?_)
    rw [bit_sum_end hsub]
    have N13 : News g' L' h12 ((L' + 1 + 1, o3) :: (L' + 1, o2) :: (D, deckO S k2 t2 n2) :: news) := cb_drop N12 (by kstt_sub)
    clear N₂ hne N12
    have hk2b : k2 ≤ k + 7 := by have := hbits.1; omega
    have hk2a : k ≤ k2 := by omega
    clear hk4 hk5
    k_steps
    exact heldI (ret x _ ls _ _ _ k2 t2 n2 o3 _ _ _ hx0 hx1 hsub d3 (by k_asm) (by rfl) (by rfl) (by rfl) (by k_asm) hk2a hk2b)
end
end
-- KbYb
section
-- noexs
open PySem.Spec PySem.Calls PyProof.Rows.LCg
theorem retF {D S : Addr} {k k' : Int} {c : Int} {O : Obj → Prop} {g h' : Heap} {L T : Addr} {m : Str → Option Value} {news led : Led} {s : Shared} {Q : Flow → Shared → Prop} {o : Obj} {t' : Tok} {n' tk' : Nat}
    (hret : ∀ T o k' t' n' h' tk' m', Fr g L h' m' → News g L h' ((T, o) :: (D, deckO S k' t' n') :: news) → (∀ p ∈ news, p.1 ≠ T) → D ≠ T → k ≤ k' → k' ≤ k + c → O o → Q (.ret (.ref T)) { s with heap := h', toks := tk' })
    (F : Fr g L h' m) (N : News g L h' led) (hm : (T, o) ∈ led) (hm2 : (D, deckO S k' t' n') ∈ led) (hs : ∀ p ∈ news, p ∈ led) (hne : ∀ p ∈ news, p.1 ≠ T) (hD : D ≠ T) (h1 : k ≤ k') (h2 : k' ≤ k + c) (hO : O o) : Q (.ret (.ref T)) { s with heap := h', toks := tk' } :=
  hret T o k' t' n' h' tk' m F (fun p hp => by
    rcases List.mem_cons.mp hp with rfl | hp
    · exact N _ hm
    · rcases List.mem_cons.mp hp with rfl | hp
      · exact N _ hm2
      · exact N p (hs p hp)) hne hD h1 h2 hO
section

variable {w : World} {D S : Addr} {k k2 : Int} {t2 tx tm tb tl : Tok} {n2 : Nat} {news : Led} {mean : ExcName → Option Value} {mg mb : Str → Option Value} {dp un : Nat} {gd : Option (List Code)} {cn : Str} {cs : Scope} {a L L' : Addr} {ccd : Value} {cl : List (Str × Addr)} {outer : List Env} {base g' : Heap} {o2 o3 : Obj} {ls : List Nat} {m : Str → Option Value} {s : Shared} {Q : Flow → Shared → Prop} {E : Value → Shared → Prop}
set_option maxHeartbeats 16000000 in
theorem key_b4 (hk0 : 0 ≤ k2) (hk1 : k2 ≤ 950) (hS : ScriptAt S news) (hoff : ∀ p ∈ news, p.1 ≠ D) (hsub : ls ∈ subsOf modL) (X' : (hd.heap_39 w.params).In g') (T' : Top hd.view_39 LS mean mg mb g') (B' : Below (ktrTop dp un gd cn cs L a ccd cl outer) base (envX cn cs L a ccd cl :: outer) g') (hd1 : dp + 12 < recursionLimit) (hu1 : un + 96 < cLine)
    (F0 : Fr g' L' s.heap m) (hm1 : m (Str.ofString "kind") = some (.int 4 tx)) (hm2 : m (Str.ofString "marks") = some (.str (Tx (rawMarks ls)) tm)) (hm3 : m (Str.ofString "bits") = some (.int (bitsSum ls) tb)) (l1 : @LT.lt Nat _ D L' ∧ AllLt L' news) (N' : News g' L' s.heap ((L' + 1 + 1, o3) :: (L' + 1, o2) :: (D, deckO S k2 t2 n2) :: news)) (d3 : o3.data = .cell (some (.str (Tx ls) tl))) (e2 : o2.data = .cell (some (.ref D)))
    (ret : ∀ T o k' t' n' h' tk' m', Fr g' L' h' m' → News g' L' h' ((T, o) :: (D, deckO S k' t' n') :: news) → (∀ p ∈ news, p.1 ≠ T) → D ≠ T → k2 ≤ k' → k' ≤ k2 + 5 → LawPairO o → Q (.ret (.ref T)) { s with heap := h', toks := tk' }) :
    wpAny (model PySem.Challenge.pw_np0049_01 w) ((ktrTop dp un gd cn cs L a ccd cl outer).deeper (keyEnv w.params L')) (execs ((keyBody w.params).drop 4) (keyEnv w.params L')) Q E s := by
  k_with_none
  k_with "call ref" => (k_here; with_reducible refine held_ ?_)
  k_with "call builtin:sum" => (k_here; with_reducible refine held_ ?_)
  k_with "eval IfExp" => (k_here; with_reducible refine held_ ?_)
  k_with "eval ListComp" => (k_here; (with_reducible show wpAny _ _ (eval (.ListComp _ [⟨.Name _ _, _, [], 0⟩] _ _) _) _ _ _); k_dflt (refine' comp_evalN0 ?F ?k1 ?k2 ?k3 ?k4 ?k5 ?_ (by intro _; rfl); (case F => k_asm); (case k1 => with_unfolding_all rfl); (case k2 => decide); (case k3 => rfl); (case k4 => decide); (case k5 => rfl)))
  k_with "eval ListComp" => (k_here; (with_reducible show wpAny _ _ (eval (.ListComp _ [⟨.Tuple [.Name _ _, .Name _ _] _ _, _, [_], 0⟩] _ _) _) _ _ _); k_dflt (refine' comp_evalP1 ?F ?k1 ?k2 ?k3 ?k4 ?k5 ?k6 ?_ (by intro _; rfl); (case F => k_asm); (case k1 => with_unfolding_all rfl); (case k2 => decide); (case k3 => rfl); (case k4 => decide); (case k5 => rfl); (case k6 => rfl)))
  have hfill : (PySem.Challenge.rw_np0049_01, hd.heap_39) = (PySem.Challenge.rw_np0049_01, hd.heap_39) := by k_fill; rfl
  clear hfill
  have hd := hd1
  have hu := hu1
  clear hd1 hu1
  obtain ⟨m0, rfl⟩ := map3 hm1 hm2 hm3
  change wpAny _ (Around.deeper _ (envOfC _ (Scope.mk _ _ _ _ _) _ _ _)) (execs (_ :: _) (envOfC _ (Scope.mk _ _ _ _ _) _ _ _)) _ _ _
  (change let ev : Env := _; wpAny _ (Around.deeper _ ev) (execs _ ev) _ _ _)
  intro ev
  (change let Ax : Around := _; wpAny _ Ax (execs _ ev) _ _ _)
  intro Ax
  have hSD := script_ne hS hoff
  have hll := (sub_facts hsub).1
  have hrl := raw_len hll
  k_steps
  refine heldI (pickU (by k_asm) (by k_updF) (by omega) (by omega) (hS.mono (by (repeat ((with_reducible refine List.forall_mem_cons.mpr ⟨?_, ?_⟩); focus k_mem)); intro p hp; repeat (first | with_reducible_and_instances exact hp | refine List.Mem.tail _ ?_))) hSD (by k_mem) (by k_ne) (by exact Nat.succ_pos _) (by simp only [List.length_cons, List.length_nil]; omega) (by k_asm) (by k_asm) (by k_asm) (by k_asm) rfl (by first | exact room1 hd rfl | ktr_room) (by first | exact room1 hu rfl | ktr_units) ?_)
  intro r k4 t4 n4 h4 tk4 F4 N4 hk8 hk9 hr
  try dsimp only
  repeat (rename @LT.lt Nat _ _ _ ∧ _ => hx; clear hx)
  obtain ⟨n, tn, rfl, hn, hnl⟩ := law_name hr
  k_steps
  exact retF ret (by k_asm) (by k_asm) (by k_mem) (by k_mem) (by (repeat ((with_reducible refine List.forall_mem_cons.mpr ⟨?_, ?_⟩); focus k_mem)); intro p hp; repeat (first | with_reducible_and_instances exact hp | refine List.Mem.tail _ ?_)) (by first | exact frA (by with_reducible assumption) | exact frs (frA) (by with_reducible assumption) | exact frs (frs (frA)) (by with_reducible assumption) | exact frs (frs (frs (frA))) (by with_reducible assumption) | exact frs (frs (frs (frs (frA)))) (by with_reducible assumption) | exact frs (frs (frs (frs (frs (frA))))) (by with_reducible assumption) | exact frs (frs (frs (frs (frs (frs (frA)))))) (by with_reducible assumption) | exact frs (frs (frs (frs (frs (frs (frs (frA))))))) (by with_reducible assumption) | exact frs (frs (frs (frs (frs (frs (frs (frs (frA)))))))) (by with_reducible assumption) | exact frs (frs (frs (frs (frs (frs (frs (frs (frs (frA))))))))) (by with_reducible assumption) | exact frs (frs (frs (frs (frs (frs (frs (frs (frs (frs (frA)))))))))) (by with_reducible assumption) | exact frs (frs (frs (frs (frs (frs (frs (frs (frs (frs (frs (frA))))))))))) (by with_reducible assumption) | exact frs (frs (frs (frs (frs (frs (frs (frs (frs (frs (frs (frs (frA)))))))))))) (by with_reducible assumption) | exact frs (frs (frs (frs (frs (frs (frs (frs (frs (frs (frs (frs (frs (frA))))))))))))) (by with_reducible assumption) | exact frs (frs (frs (frs (frs (frs (frs (frs (frs (frs (frs (frs (frs (frs (frA)))))))))))))) (by with_reducible assumption) | exact frs (frs (frs (frs (frs (frs (frs (frs (frs (frs (frs (frs (frs (frs (frs (frA))))))))))))))) (by with_reducible assumption) | exact frs (frs (frs (frs (frs (frs (frs (frs (frs (frs (frs (frs (frs (frs (frs (frs (frA)))))))))))))))) (by with_reducible assumption) | exact frs (frs (frs (frs (frs (frs (frs (frs (frs (frs (frs (frs (frs (frs (frs (frs (frs (frA))))))))))))))))) (by with_reducible assumption)) (by k_ne) (by omega) (by omega) (law_pair4 hsub hn)
end
end
-- KbYc
section
-- noexs
open PySem.Spec PySem.Calls PyProof.Rows.LCg

section

variable {w : World} {D S : Addr} {k k2 : Int} {t2 tx tm tb tl : Tok} {n2 : Nat} {news : Led} {mean : ExcName → Option Value} {mg mb : Str → Option Value} {dp un : Nat} {gd : Option (List Code)} {cn : Str} {cs : Scope} {a L L' : Addr} {ccd : Value} {cl : List (Str × Addr)} {outer : List Env} {base g' : Heap} {o2 o3 : Obj} {ls : List Nat} {m : Str → Option Value} {s : Shared} {Q : Flow → Shared → Prop} {E : Value → Shared → Prop}
set_option maxHeartbeats 16000000 in
theorem key_b3 (hk0 : 0 ≤ k2) (hk1 : k2 ≤ 950) (hS : ScriptAt S news) (hoff : ∀ p ∈ news, p.1 ≠ D) (hsub : ls ∈ subsOf modL) (X' : (hd.heap_39 w.params).In g') (T' : Top hd.view_39 LS mean mg mb g') (B' : Below (ktrTop dp un gd cn cs L a ccd cl outer) base (envX cn cs L a ccd cl :: outer) g') (hd1 : dp + 12 < recursionLimit) (hu1 : un + 96 < cLine)
    (F0 : Fr g' L' s.heap m) (hm1 : m (Str.ofString "kind") = some (.int 3 tx)) (hm2 : m (Str.ofString "marks") = some (.str (Tx (rawMarks ls)) tm)) (hm3 : m (Str.ofString "bits") = some (.int (bitsSum ls) tb)) (l1 : @LT.lt Nat _ D L' ∧ AllLt L' news) (N' : News g' L' s.heap ((L' + 1 + 1, o3) :: (L' + 1, o2) :: (D, deckO S k2 t2 n2) :: news)) (d3 : o3.data = .cell (some (.str (Tx ls) tl))) (e2 : o2.data = .cell (some (.ref D)))
    (ret : ∀ T o k' t' n' h' tk' m', Fr g' L' h' m' → News g' L' h' ((T, o) :: (D, deckO S k' t' n') :: news) → (∀ p ∈ news, p.1 ≠ T) → D ≠ T → k2 ≤ k' → k' ≤ k2 + 5 → LawPairO o → Q (.ret (.ref T)) { s with heap := h', toks := tk' }) :
    wpAny (model PySem.Challenge.pw_np0049_01 w) ((ktrTop dp un gd cn cs L a ccd cl outer).deeper (keyEnv w.params L')) (execs ((keyBody w.params).drop 4) (keyEnv w.params L')) Q E s := by
  k_with_none
  k_with "call ref" => (k_here; with_reducible refine held_ ?_)
  k_with "call builtin:sum" => (k_here; with_reducible refine held_ ?_)
  k_with "eval IfExp" => (k_here; with_reducible refine held_ ?_)
  k_with "eval ListComp" => (k_here; (with_reducible show wpAny _ _ (eval (.ListComp _ [⟨.Name _ _, _, [], 0⟩] _ _) _) _ _ _); k_dflt (refine' comp_evalN0 ?F ?k1 ?k2 ?k3 ?k4 ?k5 ?_ (by intro _; rfl); (case F => k_asm); (case k1 => with_unfolding_all rfl); (case k2 => decide); (case k3 => rfl); (case k4 => decide); (case k5 => rfl)))
  k_with "eval ListComp" => (k_here; (with_reducible show wpAny _ _ (eval (.ListComp _ [⟨.Tuple [.Name _ _, .Name _ _] _ _, _, [_], 0⟩] _ _) _) _ _ _); k_dflt (refine' comp_evalP1 ?F ?k1 ?k2 ?k3 ?k4 ?k5 ?k6 ?_ (by intro _; rfl); (case F => k_asm); (case k1 => with_unfolding_all rfl); (case k2 => decide); (case k3 => rfl); (case k4 => decide); (case k5 => rfl); (case k6 => rfl)))
  k_with "ite" => (k_closed; with_reducible (first | refine ite_pos (by decide) ?_ | refine ite_neg (by decide) ?_))
  have hfill : (PySem.Challenge.rw_np0049_01, hd.heap_39) = (PySem.Challenge.rw_np0049_01, hd.heap_39) := by k_fill; rfl
  clear hfill
  have hd := hd1
  have hu := hu1
  clear hd1 hu1
  obtain ⟨m0, rfl⟩ := map3 hm1 hm2 hm3
  change wpAny _ (Around.deeper _ (envOfC _ (Scope.mk _ _ _ _ _) _ _ _)) (execs (_ :: _) (envOfC _ (Scope.mk _ _ _ _ _) _ _ _)) _ _ _
  (change let ev : Env := _; wpAny _ (Around.deeper _ ev) (execs _ ev) _ _ _)
  intro ev
  (change let Ax : Around := _; wpAny _ Ax (execs _ ev) _ _ _)
  intro Ax
  have hSD := script_ne hS hoff
  have hll := (sub_facts hsub).1
  have hrl := raw_len hll
  k_steps
  refine heldI (pickU (by k_asm) (by k_updF) (by omega) (by omega) (hS.mono (by (repeat ((with_reducible refine List.forall_mem_cons.mpr ⟨?_, ?_⟩); focus k_mem)); intro p hp; repeat (first | with_reducible_and_instances exact hp | refine List.Mem.tail _ ?_))) hSD (by k_mem) (by k_ne) (by exact Nat.succ_pos _) (by simp only [List.length_cons, List.length_nil]; omega) (by k_asm) (by k_asm) (by k_asm) (by k_asm) rfl (by first | exact room1 hd rfl | ktr_room) (by first | exact room1 hu rfl | ktr_units) ?_)
  intro r k4 t4 n4 h4 tk4 F4 N4 hk8 hk9 hr
  try dsimp only
  repeat (rename @LT.lt Nat _ _ _ ∧ _ => hx; clear hx)
  obtain ⟨T5, c5, s5, t5, u5, rfl, N5, hc5⟩ : ∃ T c s t u, r = .ref T ∧ News g' L' h4 [(T, ({ cls := .type "tuple", data := .seq #[.int c t, .str s u] } : Obj))] ∧ (c, Lst s) ∈ lawSome := by
    simp only [List.mem_cons, List.not_mem_nil, or_false] at hr
    rcases hr with rfl | rfl | rfl | rfl | rfl | rfl <;> exact ⟨_, _, _, _, _, rfl, fun p hp => N4 p (by rw [List.mem_singleton.mp hp]; k_mem), by decide +kernel⟩
  have N6 : News g' L' h4 ((T5, ({ cls := .type "tuple", data := .seq #[.int c5 t5, .str s5 u5] } : Obj)) :: (L' + 1 + 1, o3) :: (L' + 1, o2) :: (D, deckO S k4 t4 n4) :: news) := news_cons N5 (cb_drop N4 (by (repeat ((with_reducible refine List.forall_mem_cons.mpr ⟨?_, ?_⟩); focus k_mem)); intro p hp; repeat (first | with_reducible_and_instances exact hp | refine List.Mem.tail _ ?_)))
  clear N4 N5
  have hl5 := law_len hc5 (by decide)
  k_steps
  exact retF ret (by k_asm) (by k_asm) (by k_mem) (by k_mem) (by (repeat ((with_reducible refine List.forall_mem_cons.mpr ⟨?_, ?_⟩); focus k_mem)); intro p hp; repeat (first | with_reducible_and_instances exact hp | refine List.Mem.tail _ ?_)) (by first | exact frA (by with_reducible assumption) | exact frs (frA) (by with_reducible assumption) | exact frs (frs (frA)) (by with_reducible assumption) | exact frs (frs (frs (frA))) (by with_reducible assumption) | exact frs (frs (frs (frs (frA)))) (by with_reducible assumption) | exact frs (frs (frs (frs (frs (frA))))) (by with_reducible assumption) | exact frs (frs (frs (frs (frs (frs (frA)))))) (by with_reducible assumption) | exact frs (frs (frs (frs (frs (frs (frs (frA))))))) (by with_reducible assumption) | exact frs (frs (frs (frs (frs (frs (frs (frs (frA)))))))) (by with_reducible assumption) | exact frs (frs (frs (frs (frs (frs (frs (frs (frs (frA))))))))) (by with_reducible assumption) | exact frs (frs (frs (frs (frs (frs (frs (frs (frs (frs (frA)))))))))) (by with_reducible assumption) | exact frs (frs (frs (frs (frs (frs (frs (frs (frs (frs (frs (frA))))))))))) (by with_reducible assumption) | exact frs (frs (frs (frs (frs (frs (frs (frs (frs (frs (frs (frs (frA)))))))))))) (by with_reducible assumption) | exact frs (frs (frs (frs (frs (frs (frs (frs (frs (frs (frs (frs (frs (frA))))))))))))) (by with_reducible assumption) | exact frs (frs (frs (frs (frs (frs (frs (frs (frs (frs (frs (frs (frs (frs (frA)))))))))))))) (by with_reducible assumption) | exact frs (frs (frs (frs (frs (frs (frs (frs (frs (frs (frs (frs (frs (frs (frs (frA))))))))))))))) (by with_reducible assumption) | exact frs (frs (frs (frs (frs (frs (frs (frs (frs (frs (frs (frs (frs (frs (frs (frs (frA)))))))))))))))) (by with_reducible assumption) | exact frs (frs (frs (frs (frs (frs (frs (frs (frs (frs (frs (frs (frs (frs (frs (frs (frs (frA))))))))))))))))) (by with_reducible assumption)) (by k_ne) (by omega) (by omega) (law_pair3 hsub hc5)
end
end
-- KbYd
section
-- noexs
open PySem.Spec PySem.Calls PyProof.Rows.LCg

section

variable {w : World} {D S : Addr} {k k2 : Int} {t2 tx tm tb tl : Tok} {n2 : Nat} {news : Led} {mean : ExcName → Option Value} {mg mb : Str → Option Value} {dp un : Nat} {gd : Option (List Code)} {cn : Str} {cs : Scope} {a L L' : Addr} {ccd : Value} {cl : List (Str × Addr)} {outer : List Env} {base g' : Heap} {o2 o3 : Obj} {ls : List Nat} {m : Str → Option Value} {s : Shared} {Q : Flow → Shared → Prop} {E : Value → Shared → Prop}
set_option maxHeartbeats 16000000 in
theorem key_b2 (hk0 : 0 ≤ k2) (hk1 : k2 ≤ 950) (hS : ScriptAt S news) (hoff : ∀ p ∈ news, p.1 ≠ D) (hsub : ls ∈ subsOf modL) (X' : (hd.heap_39 w.params).In g') (T' : Top hd.view_39 LS mean mg mb g') (B' : Below (ktrTop dp un gd cn cs L a ccd cl outer) base (envX cn cs L a ccd cl :: outer) g') (hd1 : dp + 12 < recursionLimit) (hu1 : un + 96 < cLine)
    (F0 : Fr g' L' s.heap m) (hm1 : m (Str.ofString "kind") = some (.int 2 tx)) (hm2 : m (Str.ofString "marks") = some (.str (Tx (rawMarks ls)) tm)) (hm3 : m (Str.ofString "bits") = some (.int (bitsSum ls) tb)) (l1 : @LT.lt Nat _ D L' ∧ AllLt L' news) (N' : News g' L' s.heap ((L' + 1 + 1, o3) :: (L' + 1, o2) :: (D, deckO S k2 t2 n2) :: news)) (d3 : o3.data = .cell (some (.str (Tx ls) tl))) (e2 : o2.data = .cell (some (.ref D)))
    (ret : ∀ T o k' t' n' h' tk' m', Fr g' L' h' m' → News g' L' h' ((T, o) :: (D, deckO S k' t' n') :: news) → (∀ p ∈ news, p.1 ≠ T) → D ≠ T → k2 ≤ k' → k' ≤ k2 + 5 → LawPairO o → Q (.ret (.ref T)) { s with heap := h', toks := tk' }) :
    wpAny (model PySem.Challenge.pw_np0049_01 w) ((ktrTop dp un gd cn cs L a ccd cl outer).deeper (keyEnv w.params L')) (execs ((keyBody w.params).drop 4) (keyEnv w.params L')) Q E s := by
  k_with_none
  k_with "call ref" => (k_here; with_reducible refine held_ ?_)
  k_with "call builtin:sum" => (k_here; with_reducible refine held_ ?_)
  k_with "eval IfExp" => (k_here; with_reducible refine held_ ?_)
  k_with "eval ListComp" => (k_here; (with_reducible show wpAny _ _ (eval (.ListComp _ [⟨.Name _ _, _, [], 0⟩] _ _) _) _ _ _); k_dflt (refine' comp_evalN0 ?F ?k1 ?k2 ?k3 ?k4 ?k5 ?_ (by intro _; rfl); (case F => k_asm); (case k1 => with_unfolding_all rfl); (case k2 => decide); (case k3 => rfl); (case k4 => decide); (case k5 => rfl)))
  k_with "eval ListComp" => (k_here; (with_reducible show wpAny _ _ (eval (.ListComp _ [⟨.Tuple [.Name _ _, .Name _ _] _ _, _, [_], 0⟩] _ _) _) _ _ _); k_dflt (refine' comp_evalP1 ?F ?k1 ?k2 ?k3 ?k4 ?k5 ?k6 ?_ (by intro _; rfl); (case F => k_asm); (case k1 => with_unfolding_all rfl); (case k2 => decide); (case k3 => rfl); (case k4 => decide); (case k5 => rfl); (case k6 => rfl)))
  have hfill : (PySem.Challenge.rw_np0049_01, hd.heap_39) = (PySem.Challenge.rw_np0049_01, hd.heap_39) := by k_fill; rfl
  clear hfill
  have hd := hd1
  have hu := hu1
  clear hd1 hu1
  obtain ⟨m0, rfl⟩ := map3 hm1 hm2 hm3
  change wpAny _ (Around.deeper _ (envOfC _ (Scope.mk _ _ _ _ _) _ _ _)) (execs (_ :: _) (envOfC _ (Scope.mk _ _ _ _ _) _ _ _)) _ _ _
  (change let ev : Env := _; wpAny _ (Around.deeper _ ev) (execs _ ev) _ _ _)
  intro ev
  (change let Ax : Around := _; wpAny _ Ax (execs _ ev) _ _ _)
  intro Ax
  have hSD := script_ne hS hoff
  have hll := (sub_facts hsub).1
  have hrl := raw_len hll
  k_steps
  refine heldI (pickU (by k_asm) (by k_updF) (by omega) (by omega) (hS.mono (by (repeat ((with_reducible refine List.forall_mem_cons.mpr ⟨?_, ?_⟩); focus k_mem)); intro p hp; repeat (first | with_reducible_and_instances exact hp | refine List.Mem.tail _ ?_))) hSD (by k_mem) (by k_ne) (by exact Nat.succ_pos _) (by simp only [List.length_cons, List.length_nil]; omega) (by k_asm) (by k_asm) (by k_asm) (by k_asm) rfl (by first | exact room1 hd rfl | ktr_room) (by first | exact room1 hu rfl | ktr_units) ?_)
  intro r k4 t4 n4 h4 tk4 F4 N4 hk8 hk9 hr
  try dsimp only
  repeat (rename @LT.lt Nat _ _ _ ∧ _ => hx; clear hx)
  obtain ⟨T5, c5, s5, t5, u5, rfl, N5, hc5⟩ : ∃ T c s t u, r = .ref T ∧ News g' L' h4 [(T, ({ cls := .type "tuple", data := .seq #[.int c t, .str s u] } : Obj))] ∧ (c, Lst s) ∈ lawCtrl := by
    simp only [List.mem_cons, List.not_mem_nil, or_false] at hr
    rcases hr with rfl | rfl | rfl <;> exact ⟨_, _, _, _, _, rfl, fun p hp => N4 p (by rw [List.mem_singleton.mp hp]; k_mem), by decide +kernel⟩
  have N6 : News g' L' h4 ((T5, ({ cls := .type "tuple", data := .seq #[.int c5 t5, .str s5 u5] } : Obj)) :: (L' + 1 + 1, o3) :: (L' + 1, o2) :: (D, deckO S k4 t4 n4) :: news) := news_cons N5 (cb_drop N4 (by (repeat ((with_reducible refine List.forall_mem_cons.mpr ⟨?_, ?_⟩); focus k_mem)); intro p hp; repeat (first | with_reducible_and_instances exact hp | refine List.Mem.tail _ ?_)))
  clear N4 N5
  have hl5 := law_len hc5 (by decide)
  k_steps
  refine heldI (joinInt (lessC ls) ?_ ?_)
  · with_reducible refine IfExp_ ?_
    k_steps
    · exact JoinI.intro (lessC_out (c_in (by assumption)))
    · exact JoinI.intro (lessC_in (c_in (by assumption)))
  intro tj kj
  have hrl2 := rep_len hsub hll
  have hwl := raw_len (withCs_len ls)
  k_steps
  · exact retF ret (by k_asm) (by k_asm) (by k_mem) (by k_mem) (by (repeat ((with_reducible refine List.forall_mem_cons.mpr ⟨?_, ?_⟩); focus k_mem)); intro p hp; repeat (first | with_reducible_and_instances exact hp | refine List.Mem.tail _ ?_)) (by first | exact frA (by with_reducible assumption) | exact frs (frA) (by with_reducible assumption) | exact frs (frs (frA)) (by with_reducible assumption) | exact frs (frs (frs (frA))) (by with_reducible assumption) | exact frs (frs (frs (frs (frA)))) (by with_reducible assumption) | exact frs (frs (frs (frs (frs (frA))))) (by with_reducible assumption) | exact frs (frs (frs (frs (frs (frs (frA)))))) (by with_reducible assumption) | exact frs (frs (frs (frs (frs (frs (frs (frA))))))) (by with_reducible assumption) | exact frs (frs (frs (frs (frs (frs (frs (frs (frA)))))))) (by with_reducible assumption) | exact frs (frs (frs (frs (frs (frs (frs (frs (frs (frA))))))))) (by with_reducible assumption) | exact frs (frs (frs (frs (frs (frs (frs (frs (frs (frs (frA)))))))))) (by with_reducible assumption) | exact frs (frs (frs (frs (frs (frs (frs (frs (frs (frs (frs (frA))))))))))) (by with_reducible assumption) | exact frs (frs (frs (frs (frs (frs (frs (frs (frs (frs (frs (frs (frA)))))))))))) (by with_reducible assumption) | exact frs (frs (frs (frs (frs (frs (frs (frs (frs (frs (frs (frs (frs (frA))))))))))))) (by with_reducible assumption) | exact frs (frs (frs (frs (frs (frs (frs (frs (frs (frs (frs (frs (frs (frs (frA)))))))))))))) (by with_reducible assumption) | exact frs (frs (frs (frs (frs (frs (frs (frs (frs (frs (frs (frs (frs (frs (frs (frA))))))))))))))) (by with_reducible assumption) | exact frs (frs (frs (frs (frs (frs (frs (frs (frs (frs (frs (frs (frs (frs (frs (frs (frA)))))))))))))))) (by with_reducible assumption) | exact frs (frs (frs (frs (frs (frs (frs (frs (frs (frs (frs (frs (frs (frs (frs (frs (frs (frA))))))))))))))))) (by with_reducible assumption)) (by k_ne) (by omega) (by omega) (law_pair2b hsub hc5 (fun q => absurd q.2 (by rw [m_in (by assumption)]; simp)))
  · have h9 : c5 = 9 := by assumption
    have hM := m_in (ls := ls) (by assumption)
    refine heldI (TellM.use tell_law_bits (by k_asm) (by k_asm) (by k_asm) (by k_asm) (by k_asm) rfl (by first | exact room1 hd rfl | ktr_room) (by first | exact room1 hu rfl | ktr_units) ?_)
    rintro A3 nA3 tps3 hA3 tkA3 FA3 NA3 lA3 hbits3
    try dsimp only
    k_steps
    refine heldI (comp_pairs (news := (A3, refsOf tps3 nA3) :: (tupsOf tps3 ++ ((L' + 1 + 1, o3) :: (L' + 1, o2) :: (D, deckO S k4 t4 n4) :: news))) (fun i zs nx => nx = (A3, refsOf tps3 nA3) :: (tupsOf tps3 ++ ((L' + 1 + 1, o3) :: (L' + 1, o2) :: (D, deckO S k4 t4 n4) :: news)) ∧ StrsAre zs ((((modL.take i).filter fun c => ls.contains c || c == 67).map fun c => [c, 45]).map Tx)) (by rintro i ys nx ⟨rfl, _⟩; rfl) (by rfl) (by k_asm) (cb_drop (by k_asm) (by kstt_sub)) (.head _) (fun p hp => .tail _ (List.mem_append_left _ (List.mem_map_of_mem hp))) (by rw [hbits3.1]; decide +kernel) (by decide) ⟨rfl, .nil⟩ ?_ ?_)
    · rintro i T x' y' ys nx own I C oC Dc m₂ h tk E' hTi hma hmb ⟨rfl, hys⟩ hown hne hN F₂ N₂
      obtain ⟨c, tc, uc, hc, rfl, rfl⟩ := hbits3.2 _ _ _ _ hTi
      dsimp only [CTest]
      have N₃ : News g' L' h ((L' + 1 + 1, o3) :: (L' + 1, o2) :: (C, oC) :: (Dc, lst ys) :: (A3, refsOf tps3 nA3) :: (tupsOf tps3 ++ ((D, deckO S k4 t4 n4) :: (news ++ own)))) := cb_drop N₂ (by kstt_sub)
      clear N₂
      k_steps
      · exact TEndJ.intro (by k_asm) (by k_asm) (by kstt_sub) ⟨rfl, mark_step true (or_in (.inr (by assumption))) hc hys⟩
      · exact TEndJ.intro (by k_asm) (by k_asm) (by kstt_sub) ⟨rfl, mark_step (t := 0) false (or_out (o_in (by assumption)) (by assumption)) hc hys⟩
      · exact TEndJ.intro (by k_asm) (by k_asm) (by kstt_sub) ⟨rfl, mark_step true (or_in (.inl (o_in (by assumption)))) hc hys⟩
    rintro D3 h tk zs nx ⟨rfl, hzs⟩ F₂ N₂ hne
    rw [hbits3.1] at hzs
    k_steps
    refine join_list (N₂.isList (.head _)) hzs (marks_small ls) ?_
    intro t15 k15
    rw [mark_end]
    have N16 : News g' L' h ((L' + 1 + 1, o3) :: (L' + 1, o2) :: (D, deckO S k4 t4 n4) :: news) := cb_drop N₂ (by kstt_sub)
    clear N₂ hne
    k_steps
    exact retF ret (by k_asm) (by k_asm) (by k_mem) (by k_mem) (by (repeat ((with_reducible refine List.forall_mem_cons.mpr ⟨?_, ?_⟩); focus k_mem)); intro p hp; repeat (first | with_reducible_and_instances exact hp | refine List.Mem.tail _ ?_)) (by first | exact frA (by with_reducible assumption) | exact frs (frA) (by with_reducible assumption) | exact frs (frs (frA)) (by with_reducible assumption) | exact frs (frs (frs (frA))) (by with_reducible assumption) | exact frs (frs (frs (frs (frA)))) (by with_reducible assumption) | exact frs (frs (frs (frs (frs (frA))))) (by with_reducible assumption) | exact frs (frs (frs (frs (frs (frs (frA)))))) (by with_reducible assumption) | exact frs (frs (frs (frs (frs (frs (frs (frA))))))) (by with_reducible assumption) | exact frs (frs (frs (frs (frs (frs (frs (frs (frA)))))))) (by with_reducible assumption) | exact frs (frs (frs (frs (frs (frs (frs (frs (frs (frA))))))))) (by with_reducible assumption) | exact frs (frs (frs (frs (frs (frs (frs (frs (frs (frs (frA)))))))))) (by with_reducible assumption) | exact frs (frs (frs (frs (frs (frs (frs (frs (frs (frs (frs (frA))))))))))) (by with_reducible assumption) | exact frs (frs (frs (frs (frs (frs (frs (frs (frs (frs (frs (frs (frA)))))))))))) (by with_reducible assumption) | exact frs (frs (frs (frs (frs (frs (frs (frs (frs (frs (frs (frs (frs (frA))))))))))))) (by with_reducible assumption) | exact frs (frs (frs (frs (frs (frs (frs (frs (frs (frs (frs (frs (frs (frs (frA)))))))))))))) (by with_reducible assumption) | exact frs (frs (frs (frs (frs (frs (frs (frs (frs (frs (frs (frs (frs (frs (frs (frA))))))))))))))) (by with_reducible assumption) | exact frs (frs (frs (frs (frs (frs (frs (frs (frs (frs (frs (frs (frs (frs (frs (frs (frA)))))))))))))))) (by with_reducible assumption) | exact frs (frs (frs (frs (frs (frs (frs (frs (frs (frs (frs (frs (frs (frs (frs (frs (frs (frA))))))))))))))))) (by with_reducible assumption)) (by k_ne) (by omega) (by omega) (law_pair2a hsub hc5 h9 hM)
  · exact retF ret (by k_asm) (by k_asm) (by k_mem) (by k_mem) (by (repeat ((with_reducible refine List.forall_mem_cons.mpr ⟨?_, ?_⟩); focus k_mem)); intro p hp; repeat (first | with_reducible_and_instances exact hp | refine List.Mem.tail _ ?_)) (by first | exact frA (by with_reducible assumption) | exact frs (frA) (by with_reducible assumption) | exact frs (frs (frA)) (by with_reducible assumption) | exact frs (frs (frs (frA))) (by with_reducible assumption) | exact frs (frs (frs (frs (frA)))) (by with_reducible assumption) | exact frs (frs (frs (frs (frs (frA))))) (by with_reducible assumption) | exact frs (frs (frs (frs (frs (frs (frA)))))) (by with_reducible assumption) | exact frs (frs (frs (frs (frs (frs (frs (frA))))))) (by with_reducible assumption) | exact frs (frs (frs (frs (frs (frs (frs (frs (frA)))))))) (by with_reducible assumption) | exact frs (frs (frs (frs (frs (frs (frs (frs (frs (frA))))))))) (by with_reducible assumption) | exact frs (frs (frs (frs (frs (frs (frs (frs (frs (frs (frA)))))))))) (by with_reducible assumption) | exact frs (frs (frs (frs (frs (frs (frs (frs (frs (frs (frs (frA))))))))))) (by with_reducible assumption) | exact frs (frs (frs (frs (frs (frs (frs (frs (frs (frs (frs (frs (frA)))))))))))) (by with_reducible assumption) | exact frs (frs (frs (frs (frs (frs (frs (frs (frs (frs (frs (frs (frs (frA))))))))))))) (by with_reducible assumption) | exact frs (frs (frs (frs (frs (frs (frs (frs (frs (frs (frs (frs (frs (frs (frA)))))))))))))) (by with_reducible assumption) | exact frs (frs (frs (frs (frs (frs (frs (frs (frs (frs (frs (frs (frs (frs (frs (frA))))))))))))))) (by with_reducible assumption) | exact frs (frs (frs (frs (frs (frs (frs (frs (frs (frs (frs (frs (frs (frs (frs (frs (frA)))))))))))))))) (by with_reducible assumption) | exact frs (frs (frs (frs (frs (frs (frs (frs (frs (frs (frs (frs (frs (frs (frs (frs (frs (frA))))))))))))))))) (by with_reducible assumption)) (by k_ne) (by omega) (by omega) (law_pair2b hsub hc5 (fun q => absurd q.1 (by assumption)))
end
end
-- KbYe
section
-- noexs
open PySem.Spec PySem.Calls PyProof.Rows.LCg

section

variable {w : World} {D S : Addr} {k k2 : Int} {t2 tx tm tb tl : Tok} {n2 : Nat} {news : Led} {mean : ExcName → Option Value} {mg mb : Str → Option Value} {dp un : Nat} {gd : Option (List Code)} {cn : Str} {cs : Scope} {a L L' : Addr} {ccd : Value} {cl : List (Str × Addr)} {outer : List Env} {base g' : Heap} {o2 o3 : Obj} {ls : List Nat} {m : Str → Option Value} {s : Shared} {Q : Flow → Shared → Prop} {E : Value → Shared → Prop}
set_option maxHeartbeats 16000000 in
theorem key_b1 (hk0 : 0 ≤ k2) (hk1 : k2 ≤ 950) (hS : ScriptAt S news) (hoff : ∀ p ∈ news, p.1 ≠ D) (hsub : ls ∈ subsOf modL) (X' : (hd.heap_39 w.params).In g') (T' : Top hd.view_39 LS mean mg mb g') (B' : Below (ktrTop dp un gd cn cs L a ccd cl outer) base (envX cn cs L a ccd cl :: outer) g') (hd1 : dp + 12 < recursionLimit) (hu1 : un + 96 < cLine)
    (F0 : Fr g' L' s.heap m) (hm1 : m (Str.ofString "kind") = some (.int 1 tx)) (hm2 : m (Str.ofString "marks") = some (.str (Tx (rawMarks ls)) tm)) (hm3 : m (Str.ofString "bits") = some (.int (bitsSum ls) tb)) (l1 : @LT.lt Nat _ D L' ∧ AllLt L' news) (N' : News g' L' s.heap ((L' + 1 + 1, o3) :: (L' + 1, o2) :: (D, deckO S k2 t2 n2) :: news)) (d3 : o3.data = .cell (some (.str (Tx ls) tl))) (e2 : o2.data = .cell (some (.ref D)))
    (ret : ∀ T o k' t' n' h' tk' m', Fr g' L' h' m' → News g' L' h' ((T, o) :: (D, deckO S k' t' n') :: news) → (∀ p ∈ news, p.1 ≠ T) → D ≠ T → k2 ≤ k' → k' ≤ k2 + 5 → LawPairO o → Q (.ret (.ref T)) { s with heap := h', toks := tk' }) :
    wpAny (model PySem.Challenge.pw_np0049_01 w) ((ktrTop dp un gd cn cs L a ccd cl outer).deeper (keyEnv w.params L')) (execs ((keyBody w.params).drop 4) (keyEnv w.params L')) Q E s := by
  k_with_none
  k_with "call ref" => (k_here; with_reducible refine held_ ?_)
  k_with "call builtin:sum" => (k_here; with_reducible refine held_ ?_)
  k_with "eval IfExp" => (k_here; with_reducible refine held_ ?_)
  k_with "eval ListComp" => (k_here; (with_reducible show wpAny _ _ (eval (.ListComp _ [⟨.Name _ _, _, [], 0⟩] _ _) _) _ _ _); k_dflt (refine' comp_evalN0 ?F ?k1 ?k2 ?k3 ?k4 ?k5 ?_ (by intro _; rfl); (case F => k_asm); (case k1 => with_unfolding_all rfl); (case k2 => decide); (case k3 => rfl); (case k4 => decide); (case k5 => rfl)))
  k_with "eval ListComp" => (k_here; (with_reducible show wpAny _ _ (eval (.ListComp _ [⟨.Tuple [.Name _ _, .Name _ _] _ _, _, [_], 0⟩] _ _) _) _ _ _); k_dflt (refine' comp_evalP1 ?F ?k1 ?k2 ?k3 ?k4 ?k5 ?k6 ?_ (by intro _; rfl); (case F => k_asm); (case k1 => with_unfolding_all rfl); (case k2 => decide); (case k3 => rfl); (case k4 => decide); (case k5 => rfl); (case k6 => rfl)))
  have hfill : (PySem.Challenge.rw_np0049_01, hd.heap_39) = (PySem.Challenge.rw_np0049_01, hd.heap_39) := by k_fill; rfl
  clear hfill
  have hd := hd1
  have hu := hu1
  clear hd1 hu1
  obtain ⟨m0, rfl⟩ := map3 hm1 hm2 hm3
  change wpAny _ (Around.deeper _ (envOfC _ (Scope.mk _ _ _ _ _) _ _ _)) (execs (_ :: _) (envOfC _ (Scope.mk _ _ _ _ _) _ _ _)) _ _ _
  (change let ev : Env := _; wpAny _ (Around.deeper _ ev) (execs _ ev) _ _ _)
  intro ev
  (change let Ax : Around := _; wpAny _ Ax (execs _ ev) _ _ _)
  intro Ax
  have hSD := script_ne hS hoff
  have hll := (sub_facts hsub).1
  have hrl := raw_len hll
  k_steps
  refine heldI (pickU (by k_asm) (by k_updF) (by omega) (by omega) (hS.mono (by (repeat ((with_reducible refine List.forall_mem_cons.mpr ⟨?_, ?_⟩); focus k_mem)); intro p hp; repeat (first | with_reducible_and_instances exact hp | refine List.Mem.tail _ ?_))) hSD (by k_mem) (by k_ne) (by exact Nat.succ_pos _) (by simp only [List.length_cons, List.length_nil]; omega) (by k_asm) (by k_asm) (by k_asm) (by k_asm) rfl (by first | exact room1 hd rfl | ktr_room) (by first | exact room1 hu rfl | ktr_units) ?_)
  intro r k4 t4 n4 h4 tk4 F4 N4 hk8 hk9 hr
  try dsimp only
  repeat (rename @LT.lt Nat _ _ _ ∧ _ => hx; clear hx)
  obtain ⟨T5, c5, s5, t5, u5, rfl, N5, hc5⟩ : ∃ T c s t u, r = .ref T ∧ News g' L' h4 [(T, ({ cls := .type "tuple", data := .seq #[.int c t, .str s u] } : Obj))] ∧ (c, Lst s) ∈ lawLetters := by
    simp only [List.mem_cons, List.not_mem_nil, or_false] at hr
    rcases hr with rfl | rfl | rfl | rfl | rfl | rfl | rfl <;> exact ⟨_, _, _, _, _, rfl, fun p hp => N4 p (by rw [List.mem_singleton.mp hp]; k_mem), by decide +kernel⟩
  have N6 : News g' L' h4 ((T5, ({ cls := .type "tuple", data := .seq #[.int c5 t5, .str s5 u5] } : Obj)) :: (L' + 1 + 1, o3) :: (L' + 1, o2) :: (D, deckO S k4 t4 n4) :: news) := news_cons N5 (cb_drop N4 (by (repeat ((with_reducible refine List.forall_mem_cons.mpr ⟨?_, ?_⟩); focus k_mem)); intro p hp; repeat (first | with_reducible_and_instances exact hp | refine List.Mem.tail _ ?_)))
  clear N4 N5
  have hl5 := law_len hc5 (by decide)
  k_steps
  refine heldI (joinInt (lessC ls) ?_ ?_)
  · with_reducible refine IfExp_ ?_
    k_steps
    · exact JoinI.intro (lessC_out (c_in (by assumption)))
    · exact JoinI.intro (lessC_in (c_in (by assumption)))
  intro tj kj
  have hwl := raw_len (withCs_len ls)
  k_steps
  refine heldI (TellM.use tell_law_bits (by k_asm) (by k_asm) (by k_asm) (by k_asm) (by k_asm) rfl (by first | exact room1 hd rfl | ktr_room) (by first | exact room1 hu rfl | ktr_units) ?_)
  rintro A3 nA3 tps3 hA3 tkA3 FA3 NA3 lA3 hbits3
  try dsimp only
  k_steps
  refine heldI (comp_pairs (news := (A3, refsOf tps3 nA3) :: (tupsOf tps3 ++ ((L' + 1 + 1, o3) :: (L' + 1, o2) :: (D, deckO S k4 t4 n4) :: news))) (fun i zs nx => nx = (A3, refsOf tps3 nA3) :: (tupsOf tps3 ++ ((L' + 1 + 1, o3) :: (L' + 1, o2) :: (D, deckO S k4 t4 n4) :: news)) ∧ StrsAre zs ((((modL.take i).filter fun c => ls.contains c || c == 67).map fun c => [c, 45]).map Tx)) (by rintro i ys nx ⟨rfl, _⟩; rfl) (by rfl) (by k_asm) (cb_drop (by k_asm) (by kstt_sub)) (.head _) (fun p hp => .tail _ (List.mem_append_left _ (List.mem_map_of_mem hp))) (by rw [hbits3.1]; decide +kernel) (by decide) ⟨rfl, .nil⟩ ?_ ?_)
  · rintro i T x' y' ys nx own I C oC Dc m₂ h tk E' hTi hma hmb ⟨rfl, hys⟩ hown hne hN F₂ N₂
    obtain ⟨c, tc, uc, hc, rfl, rfl⟩ := hbits3.2 _ _ _ _ hTi
    dsimp only [CTest]
    have N₃ : News g' L' h ((L' + 1 + 1, o3) :: (L' + 1, o2) :: (C, oC) :: (Dc, lst ys) :: (A3, refsOf tps3 nA3) :: (tupsOf tps3 ++ ((D, deckO S k4 t4 n4) :: (news ++ own)))) := cb_drop N₂ (by kstt_sub)
    clear N₂
    k_steps
    · exact TEndJ.intro (by k_asm) (by k_asm) (by kstt_sub) ⟨rfl, mark_step true (or_in (.inr (by assumption))) hc hys⟩
    · exact TEndJ.intro (by k_asm) (by k_asm) (by kstt_sub) ⟨rfl, mark_step (t := 0) false (or_out (o_in (by assumption)) (by assumption)) hc hys⟩
    · exact TEndJ.intro (by k_asm) (by k_asm) (by kstt_sub) ⟨rfl, mark_step true (or_in (.inl (o_in (by assumption)))) hc hys⟩
  rintro D3 h tk zs nx ⟨rfl, hzs⟩ F₂ N₂ hne
  rw [hbits3.1] at hzs
  k_steps
  refine join_list (N₂.isList (.head _)) hzs (marks_small ls) ?_
  intro t15 k15
  rw [mark_end]
  have N16 : News g' L' h ((L' + 1 + 1, o3) :: (L' + 1, o2) :: (D, deckO S k4 t4 n4) :: news) := cb_drop N₂ (by kstt_sub)
  clear N₂ hne
  k_steps
  exact retF ret (by k_asm) (by k_asm) (by k_mem) (by k_mem) (by (repeat ((with_reducible refine List.forall_mem_cons.mpr ⟨?_, ?_⟩); focus k_mem)); intro p hp; repeat (first | with_reducible_and_instances exact hp | refine List.Mem.tail _ ?_)) (by first | exact frA (by with_reducible assumption) | exact frs (frA) (by with_reducible assumption) | exact frs (frs (frA)) (by with_reducible assumption) | exact frs (frs (frs (frA))) (by with_reducible assumption) | exact frs (frs (frs (frs (frA)))) (by with_reducible assumption) | exact frs (frs (frs (frs (frs (frA))))) (by with_reducible assumption) | exact frs (frs (frs (frs (frs (frs (frA)))))) (by with_reducible assumption) | exact frs (frs (frs (frs (frs (frs (frs (frA))))))) (by with_reducible assumption) | exact frs (frs (frs (frs (frs (frs (frs (frs (frA)))))))) (by with_reducible assumption) | exact frs (frs (frs (frs (frs (frs (frs (frs (frs (frA))))))))) (by with_reducible assumption) | exact frs (frs (frs (frs (frs (frs (frs (frs (frs (frs (frA)))))))))) (by with_reducible assumption) | exact frs (frs (frs (frs (frs (frs (frs (frs (frs (frs (frs (frA))))))))))) (by with_reducible assumption) | exact frs (frs (frs (frs (frs (frs (frs (frs (frs (frs (frs (frs (frA)))))))))))) (by with_reducible assumption) | exact frs (frs (frs (frs (frs (frs (frs (frs (frs (frs (frs (frs (frs (frA))))))))))))) (by with_reducible assumption) | exact frs (frs (frs (frs (frs (frs (frs (frs (frs (frs (frs (frs (frs (frs (frA)))))))))))))) (by with_reducible assumption) | exact frs (frs (frs (frs (frs (frs (frs (frs (frs (frs (frs (frs (frs (frs (frs (frA))))))))))))))) (by with_reducible assumption) | exact frs (frs (frs (frs (frs (frs (frs (frs (frs (frs (frs (frs (frs (frs (frs (frs (frA)))))))))))))))) (by with_reducible assumption) | exact frs (frs (frs (frs (frs (frs (frs (frs (frs (frs (frs (frs (frs (frs (frs (frs (frs (frA))))))))))))))))) (by with_reducible assumption)) (by k_ne) (by omega) (by omega) (law_pair1 hsub hc5)
end
end
-- KbYf
section
-- noexs
open PySem.Spec PySem.Calls PyProof.Rows.LCg

section

variable {w : World} {D S : Addr} {k k2 : Int} {t2 tx tm tb tl : Tok} {n2 : Nat} {news : Led} {mean : ExcName → Option Value} {mg mb : Str → Option Value} {dp un : Nat} {gd : Option (List Code)} {cn : Str} {cs : Scope} {a L L' : Addr} {ccd : Value} {cl : List (Str × Addr)} {outer : List Env} {base g' : Heap} {o2 o3 : Obj} {ls : List Nat} {m : Str → Option Value} {s : Shared} {Q : Flow → Shared → Prop} {E : Value → Shared → Prop}
set_option maxHeartbeats 16000000 in
theorem key_b0 (hk0 : 0 ≤ k2) (hk1 : k2 ≤ 950) (hS : ScriptAt S news) (hoff : ∀ p ∈ news, p.1 ≠ D) (hsub : ls ∈ subsOf modL) (X' : (hd.heap_39 w.params).In g') (T' : Top hd.view_39 LS mean mg mb g') (B' : Below (ktrTop dp un gd cn cs L a ccd cl outer) base (envX cn cs L a ccd cl :: outer) g') (hd1 : dp + 12 < recursionLimit) (hu1 : un + 96 < cLine)
    (F0 : Fr g' L' s.heap m) (hm1 : m (Str.ofString "kind") = some (.int 0 tx)) (hm2 : m (Str.ofString "marks") = some (.str (Tx (rawMarks ls)) tm)) (hm3 : m (Str.ofString "bits") = some (.int (bitsSum ls) tb)) (l1 : @LT.lt Nat _ D L' ∧ AllLt L' news) (N' : News g' L' s.heap ((L' + 1 + 1, o3) :: (L' + 1, o2) :: (D, deckO S k2 t2 n2) :: news)) (d3 : o3.data = .cell (some (.str (Tx ls) tl))) (e2 : o2.data = .cell (some (.ref D)))
    (ret : ∀ T o k' t' n' h' tk' m', Fr g' L' h' m' → News g' L' h' ((T, o) :: (D, deckO S k' t' n') :: news) → (∀ p ∈ news, p.1 ≠ T) → D ≠ T → k2 ≤ k' → k' ≤ k2 + 5 → LawPairO o → Q (.ret (.ref T)) { s with heap := h', toks := tk' }) :
    wpAny (model PySem.Challenge.pw_np0049_01 w) ((ktrTop dp un gd cn cs L a ccd cl outer).deeper (keyEnv w.params L')) (execs ((keyBody w.params).drop 4) (keyEnv w.params L')) Q E s := by
  k_with_none
  k_with "call ref" => (k_here; with_reducible refine held_ ?_)
  k_with "call builtin:sum" => (k_here; with_reducible refine held_ ?_)
  k_with "eval IfExp" => (k_here; with_reducible refine held_ ?_)
  k_with "eval ListComp" => (k_here; (with_reducible show wpAny _ _ (eval (.ListComp _ [⟨.Name _ _, _, [], 0⟩] _ _) _) _ _ _); k_dflt (refine' comp_evalN0 ?F ?k1 ?k2 ?k3 ?k4 ?k5 ?_ (by intro _; rfl); (case F => k_asm); (case k1 => with_unfolding_all rfl); (case k2 => decide); (case k3 => rfl); (case k4 => decide); (case k5 => rfl)))
  k_with "eval ListComp" => (k_here; (with_reducible show wpAny _ _ (eval (.ListComp _ [⟨.Tuple [.Name _ _, .Name _ _] _ _, _, [_], 0⟩] _ _) _) _ _ _); k_dflt (refine' comp_evalP1 ?F ?k1 ?k2 ?k3 ?k4 ?k5 ?k6 ?_ (by intro _; rfl); (case F => k_asm); (case k1 => with_unfolding_all rfl); (case k2 => decide); (case k3 => rfl); (case k4 => decide); (case k5 => rfl); (case k6 => rfl)))
  have hfill : (PySem.Challenge.rw_np0049_01, hd.heap_39) = (PySem.Challenge.rw_np0049_01, hd.heap_39) := by k_fill; rfl
  clear hfill
  have hd := hd1
  have hu := hu1
  clear hd1 hu1
  obtain ⟨m0, rfl⟩ := map3 hm1 hm2 hm3
  change wpAny _ (Around.deeper _ (envOfC _ (Scope.mk _ _ _ _ _) _ _ _)) (execs (_ :: _) (envOfC _ (Scope.mk _ _ _ _ _) _ _ _)) _ _ _
  (change let ev : Env := _; wpAny _ (Around.deeper _ ev) (execs _ ev) _ _ _)
  intro ev
  (change let Ax : Around := _; wpAny _ Ax (execs _ ev) _ _ _)
  intro Ax
  have hSD := script_ne hS hoff
  have hll := (sub_facts hsub).1
  have hrl := raw_len hll
  k_steps
  refine heldI (pickU (by k_asm) (by k_updF) (by omega) (by omega) (hS.mono (by (repeat ((with_reducible refine List.forall_mem_cons.mpr ⟨?_, ?_⟩); focus k_mem)); intro p hp; repeat (first | with_reducible_and_instances exact hp | refine List.Mem.tail _ ?_))) hSD (by k_mem) (by k_ne) (by exact Nat.succ_pos _) (by simp only [List.length_cons, List.length_nil]; omega) (by k_asm) (by k_asm) (by k_asm) (by k_asm) rfl (by first | exact room1 hd rfl | ktr_room) (by first | exact room1 hu rfl | ktr_units) ?_)
  intro r k4 t4 n4 h4 tk4 F4 N4 hk8 hk9 hr
  try dsimp only
  repeat (rename @LT.lt Nat _ _ _ ∧ _ => hx; clear hx)
  obtain ⟨c5, t5, rfl, hc5⟩ : ∃ (c : Nat) (t : Tok), r = .int (c : Int) t ∧ c ∈ lawSigns := by
    simp only [List.mem_cons, List.not_mem_nil, or_false] at hr
    rcases hr with rfl | rfl | rfl | rfl | rfl | rfl | rfl | rfl | rfl
    · exact ⟨97, _, rfl, by decide⟩
    · exact ⟨122, _, rfl, by decide⟩
    · exact ⟨65, _, rfl, by decide⟩
    · exact ⟨64, _, rfl, by decide⟩
    · exact ⟨94, _, rfl, by decide⟩
    · exact ⟨48, _, rfl, by decide⟩
    · exact ⟨37, _, rfl, by decide⟩
    · exact ⟨42, _, rfl, by decide⟩
    · exact ⟨59, _, rfl, by decide⟩
  have N6 : News g' L' h4 ((L' + 1 + 1, o3) :: (L' + 1, o2) :: (D, deckO S k4 t4 n4) :: news) := cb_drop N4 (by (repeat ((with_reducible refine List.forall_mem_cons.mpr ⟨?_, ?_⟩); focus k_mem)); intro p hp; repeat (first | with_reducible_and_instances exact hp | refine List.Mem.tail _ ?_))
  clear N4
  have hc6 : c5 ≤ 122 := law_sign_le hc5
  have hrl2 := rep_len hsub hll
  k_steps
  · exact retF ret (by k_asm) (by k_asm) (by k_mem) (by k_mem) (by (repeat ((with_reducible refine List.forall_mem_cons.mpr ⟨?_, ?_⟩); focus k_mem)); intro p hp; repeat (first | with_reducible_and_instances exact hp | refine List.Mem.tail _ ?_)) (by first | exact frA (by with_reducible assumption) | exact frs (frA) (by with_reducible assumption) | exact frs (frs (frA)) (by with_reducible assumption) | exact frs (frs (frs (frA))) (by with_reducible assumption) | exact frs (frs (frs (frs (frA)))) (by with_reducible assumption) | exact frs (frs (frs (frs (frs (frA))))) (by with_reducible assumption) | exact frs (frs (frs (frs (frs (frs (frA)))))) (by with_reducible assumption) | exact frs (frs (frs (frs (frs (frs (frs (frA))))))) (by with_reducible assumption) | exact frs (frs (frs (frs (frs (frs (frs (frs (frA)))))))) (by with_reducible assumption) | exact frs (frs (frs (frs (frs (frs (frs (frs (frs (frA))))))))) (by with_reducible assumption) | exact frs (frs (frs (frs (frs (frs (frs (frs (frs (frs (frA)))))))))) (by with_reducible assumption) | exact frs (frs (frs (frs (frs (frs (frs (frs (frs (frs (frs (frA))))))))))) (by with_reducible assumption) | exact frs (frs (frs (frs (frs (frs (frs (frs (frs (frs (frs (frs (frA)))))))))))) (by with_reducible assumption) | exact frs (frs (frs (frs (frs (frs (frs (frs (frs (frs (frs (frs (frs (frA))))))))))))) (by with_reducible assumption) | exact frs (frs (frs (frs (frs (frs (frs (frs (frs (frs (frs (frs (frs (frs (frA)))))))))))))) (by with_reducible assumption) | exact frs (frs (frs (frs (frs (frs (frs (frs (frs (frs (frs (frs (frs (frs (frs (frA))))))))))))))) (by with_reducible assumption) | exact frs (frs (frs (frs (frs (frs (frs (frs (frs (frs (frs (frs (frs (frs (frs (frs (frA)))))))))))))))) (by with_reducible assumption) | exact frs (frs (frs (frs (frs (frs (frs (frs (frs (frs (frs (frs (frs (frs (frs (frs (frs (frA))))))))))))))))) (by with_reducible assumption)) (by k_ne) (by omega) (by omega) (law_pair0b hsub hc5 (fun q => absurd q.1 (by rw [c_in (by assumption)]; simp)))
  · exact retF ret (by k_asm) (by k_asm) (by k_mem) (by k_mem) (by (repeat ((with_reducible refine List.forall_mem_cons.mpr ⟨?_, ?_⟩); focus k_mem)); intro p hp; repeat (first | with_reducible_and_instances exact hp | refine List.Mem.tail _ ?_)) (by first | exact frA (by with_reducible assumption) | exact frs (frA) (by with_reducible assumption) | exact frs (frs (frA)) (by with_reducible assumption) | exact frs (frs (frs (frA))) (by with_reducible assumption) | exact frs (frs (frs (frs (frA)))) (by with_reducible assumption) | exact frs (frs (frs (frs (frs (frA))))) (by with_reducible assumption) | exact frs (frs (frs (frs (frs (frs (frA)))))) (by with_reducible assumption) | exact frs (frs (frs (frs (frs (frs (frs (frA))))))) (by with_reducible assumption) | exact frs (frs (frs (frs (frs (frs (frs (frs (frA)))))))) (by with_reducible assumption) | exact frs (frs (frs (frs (frs (frs (frs (frs (frs (frA))))))))) (by with_reducible assumption) | exact frs (frs (frs (frs (frs (frs (frs (frs (frs (frs (frA)))))))))) (by with_reducible assumption) | exact frs (frs (frs (frs (frs (frs (frs (frs (frs (frs (frs (frA))))))))))) (by with_reducible assumption) | exact frs (frs (frs (frs (frs (frs (frs (frs (frs (frs (frs (frs (frA)))))))))))) (by with_reducible assumption) | exact frs (frs (frs (frs (frs (frs (frs (frs (frs (frs (frs (frs (frs (frA))))))))))))) (by with_reducible assumption) | exact frs (frs (frs (frs (frs (frs (frs (frs (frs (frs (frs (frs (frs (frs (frA)))))))))))))) (by with_reducible assumption) | exact frs (frs (frs (frs (frs (frs (frs (frs (frs (frs (frs (frs (frs (frs (frs (frA))))))))))))))) (by with_reducible assumption) | exact frs (frs (frs (frs (frs (frs (frs (frs (frs (frs (frs (frs (frs (frs (frs (frs (frA)))))))))))))))) (by with_reducible assumption) | exact frs (frs (frs (frs (frs (frs (frs (frs (frs (frs (frs (frs (frs (frs (frs (frs (frs (frA))))))))))))))))) (by with_reducible assumption)) (by k_ne) (by omega) (by omega) (law_pair0a hsub hc5 (c_in (by assumption)) (any_sign hc5 (by assumption)))
  · exact retF ret (by k_asm) (by k_asm) (by k_mem) (by k_mem) (by (repeat ((with_reducible refine List.forall_mem_cons.mpr ⟨?_, ?_⟩); focus k_mem)); intro p hp; repeat (first | with_reducible_and_instances exact hp | refine List.Mem.tail _ ?_)) (by first | exact frA (by with_reducible assumption) | exact frs (frA) (by with_reducible assumption) | exact frs (frs (frA)) (by with_reducible assumption) | exact frs (frs (frs (frA))) (by with_reducible assumption) | exact frs (frs (frs (frs (frA)))) (by with_reducible assumption) | exact frs (frs (frs (frs (frs (frA))))) (by with_reducible assumption) | exact frs (frs (frs (frs (frs (frs (frA)))))) (by with_reducible assumption) | exact frs (frs (frs (frs (frs (frs (frs (frA))))))) (by with_reducible assumption) | exact frs (frs (frs (frs (frs (frs (frs (frs (frA)))))))) (by with_reducible assumption) | exact frs (frs (frs (frs (frs (frs (frs (frs (frs (frA))))))))) (by with_reducible assumption) | exact frs (frs (frs (frs (frs (frs (frs (frs (frs (frs (frA)))))))))) (by with_reducible assumption) | exact frs (frs (frs (frs (frs (frs (frs (frs (frs (frs (frs (frA))))))))))) (by with_reducible assumption) | exact frs (frs (frs (frs (frs (frs (frs (frs (frs (frs (frs (frs (frA)))))))))))) (by with_reducible assumption) | exact frs (frs (frs (frs (frs (frs (frs (frs (frs (frs (frs (frs (frs (frA))))))))))))) (by with_reducible assumption) | exact frs (frs (frs (frs (frs (frs (frs (frs (frs (frs (frs (frs (frs (frs (frA)))))))))))))) (by with_reducible assumption) | exact frs (frs (frs (frs (frs (frs (frs (frs (frs (frs (frs (frs (frs (frs (frs (frA))))))))))))))) (by with_reducible assumption) | exact frs (frs (frs (frs (frs (frs (frs (frs (frs (frs (frs (frs (frs (frs (frs (frs (frA)))))))))))))))) (by with_reducible assumption) | exact frs (frs (frs (frs (frs (frs (frs (frs (frs (frs (frs (frs (frs (frs (frs (frs (frs (frA))))))))))))))))) (by with_reducible assumption)) (by k_ne) (by omega) (by omega) (law_pair0b hsub hc5 (fun q => absurd q.2 (by rw [any_sign hc5 (by assumption)]; simp)))
end
end
-- KbY
section
-- noexs
open PySem.Spec PySem.Calls PyProof.Rows.LCg
theorem tell_law_key {w : World} {D S : Addr} {k : Int} {t0 : Tok} {n0 : Nat} {news : Led} (hk0 : 0 ≤ k) (hk1 : k ≤ 900) (hS : ScriptAt S news) (hoff : ∀ p ∈ news, p.1 ≠ D) :
   TellK w 343 [.ref D] D S k 20 (deckO S k t0 n0) news 12 96 LawPairO := by
  k_with_none
  have hfill : (PySem.Challenge.rw_np0049_01, hd.heap_39) = (PySem.Challenge.rw_np0049_01, hd.heap_39) := by k_fill; rfl
  clear hfill
  intro mean mg mb dp un gd cn cs a ccd cl outer A₀ base h₀ L m s Q E B F X N T hk hd hu hret
  refine wpAny_call ?_
  k_dflt (refine' code_defC ?k1 ?k2 ?k3 ?k4 ?k5 ?kA ?kF ?kK ?k6 ?k7 ?k8 ?k9 ?kB ?kD ?_ ?c2 ?c3 ?c4; (case kA => exact rfl); (case kF => exact rfl); (case kK => assumption); (case k1 => k_asm); (case k2 => k_asm); (case k3 => k_asm); (case k4 => k_asm); (case k5 => k_asm); (case k6 => k_is); (case k7 => k_is); (case k8 => first | exact room0 hd | ktr_room); (case k9 => exact BindsTo.of_eq rfl); (case kB => exact rfl); (case kD => decide +kernel); (case c2 => exact rfl); (case c3 => exact rfl); (case c4 => exact rfl); k_whole; intro g' L' h' tk' cells' FG' F' N' Y' B' X' T' l1; (try k_lt l1); k_cells Y'; (try simp only [List.cons_append, List.nil_append] at N'); (try dsimp only); (try k_lift B'); (try k_fold))
  rename_i o1 o2 d1 d2
  have e1 : o1.data = .cell none := d1
  have e2 : o2.data = .cell (some (.ref D)) := d2
  clear d1 d2
  obtain ⟨m0, F0⟩ : ∃ m0, Fr g' L' h' m0 := ⟨_, F'⟩
  clear F'
  refine key_p1 hk0 hk1 hS hoff X' T' B' hd hu F0 l1 N' e1 e2 ?_
  intro x tx ls tl tm tb k2 t2 n2 o3 m1 h1 tk1 hx0 hx1 hsub d3 F1 hm1 hm2 hm3 N1 hk2 hk3
  dsimp only
  obtain rfl | rfl | rfl | rfl | rfl : x = 0 ∨ x = 1 ∨ x = 2 ∨ x = 3 ∨ x = 4 := by omega
  · refine key_b0 (by omega) (by omega) hS hoff hsub X' T' B' hd hu F1 hm1 hm2 hm3 l1 N1 d3 e2 ?_
    intro T o k' t' n' h2 tk2 m2 F2 N2 hne hD q1 q2 hO
    dsimp only
    k_steps
    exact hret T o k' t' n' _ _ (by k_asm) (by k_asm) hne hD (by omega) (by omega) hO
  · refine key_b1 (by omega) (by omega) hS hoff hsub X' T' B' hd hu F1 hm1 hm2 hm3 l1 N1 d3 e2 ?_
    intro T o k' t' n' h2 tk2 m2 F2 N2 hne hD q1 q2 hO
    dsimp only
    k_steps
    exact hret T o k' t' n' _ _ (by k_asm) (by k_asm) hne hD (by omega) (by omega) hO
  · refine key_b2 (by omega) (by omega) hS hoff hsub X' T' B' hd hu F1 hm1 hm2 hm3 l1 N1 d3 e2 ?_
    intro T o k' t' n' h2 tk2 m2 F2 N2 hne hD q1 q2 hO
    dsimp only
    k_steps
    exact hret T o k' t' n' _ _ (by k_asm) (by k_asm) hne hD (by omega) (by omega) hO
  · refine key_b3 (by omega) (by omega) hS hoff hsub X' T' B' hd hu F1 hm1 hm2 hm3 l1 N1 d3 e2 ?_
    intro T o k' t' n' h2 tk2 m2 F2 N2 hne hD q1 q2 hO
    dsimp only
    k_steps
    exact hret T o k' t' n' _ _ (by k_asm) (by k_asm) hne hD (by omega) (by omega) hO
  · refine key_b4 (by omega) (by omega) hS hoff hsub X' T' B' hd hu F1 hm1 hm2 hm3 l1 N1 d3 e2 ?_
    intro T o k' t' n' h2 tk2 m2 F2 N2 hne hD q1 q2 hO
    dsimp only
    k_steps
    exact hret T o k' t' n' _ _ (by k_asm) (by k_asm) hne hD (by omega) (by omega) hO
end
-- KbZ0
section
noncomputable def lawFd (p : Params) : Option FuncData := match (hd.heap_39 p).lookup 369 with
  | some ⟨_, _, .func f, _⟩ => some f
  | _ => none
noncomputable def lawBody (p : Params) : List Stmt := match lawFd p with
  | some f => (match f.body with | .stmts b => b | _ => [])
  | none => []
noncomputable def lawScope (p : Params) : Scope := match lawFd p with
  | some f => f.scope
  | none => default
noncomputable abbrev lawEnv (p : Params) (L fa : Addr) (cd : Value) : Env := envOfC (Str.ofString "law") (lawScope p) L fa cd
theorem pick_40 (l : List Value) : kms_pick l none (some 40) = l.take 40 := by
  show (l.drop 0).take (min 40 l.length - 0) = _
  rw [List.drop_zero, Nat.sub_zero]
  by_cases h : 40 ≤ l.length
  · rw [Nat.min_eq_left h]
  · rw [Nat.min_eq_right (by omega), List.take_of_length_le (Nat.le_refl _), List.take_of_length_le (by omega)]
section

theorem law_0 {w : World} {mean : ExcName → Option Value} {mg mb : Str → Option Value} {h₀ : Heap} {L fa S : Addr} {cd : Value} {m : Str → Option Value} {s : Shared} {oc : Obj} {vS : List Value} {ns : List Int} {Q : Flow → Shared → Prop} {E : Value → Shared → Prop}
    (X : (hd.heap_39 w.params).In h₀) (T : Top hd.view_39 LS mean mg mb h₀) (B : Below callerA h₀ [] h₀) (F : Fr h₀ L s.heap m) (N : News h₀ L s.heap [(L + 1, oc)]) (hoc : oc.data = .cell none) (hm : m (Str.ofString "script") = some (.ref S)) (hS : h₀.IsList S vS.toArray) (hI : IntsAre vS ns) (hl : ns.length ≤ 63)
    (ret : ∀ h' tk' D S2 t n oc' m', Fr h₀ L h' m' → News h₀ L h' ((D, deckO S2 0 t n) :: (L + 1, oc') :: (S2, listOf (vS.take 40).toArray 0) :: []) → oc'.data = .cell (some (.ref D)) → D ≠ L + 1 → D ≠ S2 → wpAny (model PySem.Challenge.pw_np0049_01 w) (callerA.deeper (lawEnv w.params L fa cd)) (execs ((lawBody w.params).drop 1) (lawEnv w.params L fa cd)) Q E { s with heap := h', toks := tk' }) :
    wpAny (model PySem.Challenge.pw_np0049_01 w) (callerA.deeper (lawEnv w.params L fa cd)) (execs (lawBody w.params) (lawEnv w.params L fa cd)) Q E s := by
  k_with_none
  k_with "call ref" => (k_here; with_reducible refine held_ ?_)
  k_with "eval ListComp" => (k_here; with_reducible refine held_ ?_)
  k_with "subscriptTail Call" => (k_here; with_reducible refine held_ ?_)
  k_with "execs cons" => (k_here; (with_reducible show wpAny _ _ (execs (Stmt.Assign [Expr.Name (Str.ofString "pairs") _] _ _ :: _) _) _ _ _); with_reducible refine held_ ?_)
  have hfill : (PySem.Challenge.rw_np0049_01, hd.heap_39) = (PySem.Challenge.rw_np0049_01, hd.heap_39) := by k_fill; rfl
  clear hfill
  obtain ⟨m', rfl⟩ := map1 hm
  change wpAny _ (Around.deeper _ (envOfC _ (Scope.mk _ _ _ _ _) _ _ _)) (execs (_ :: _) (envOfC _ (Scope.mk _ _ _ _ _) _ _ _)) _ _ _
  have hvl : vS.length ≤ 63 := by rw [hI.length]; exact hl
  k_steps
  refine heldI (kba_turn (value' := Expr.Name (Str.ofString "_") ⟨0, 0, 0, 0⟩) (fun _ => rfl) ?_)
  k_dflt (refine' kms_slice_lit (zs := vS.take 40) ?zF ?zN ?zl ?zp ?zq ?ze ?_ ?zs ?zt ?zz; (case zF => k_asm); (case zN => k_asm); (case zl => exact News.isList (by k_asm) (.head _)); (case zp => kmk_part); (case zq => kmk_part); (case ze => exact pick_40 _); (case zs => with_unfolding_all rfl); (case zt => kmk_pure); (case zz => rw [List.size_toArray, sizeLine_eq]; omega))
  intro D9 h9 F9 N9 l9
  k_steps
  rename_i a10 a11 a12 a13 a14 h10 o10 F10 N10 d10
  simp only [List.cons_append, List.nil_append] at N10
  have N11 : News h₀ L h10 ((a10, listOf #[.ref D9, .int 0 (s.toks + 1)] 0) :: (L + 1, o10) :: (D9, listOf (vS.take 40).toArray 0) :: []) := cb_drop N10 (by kstt_sub)
  exact heldI (ret _ _ _ _ _ _ o10 _ F10 N11 d10 (by k_ne) (by k_ne))
end
end
-- KbZ1
section
/-- pairs of the ledger, and what they tell -/
inductive TpRel : List (Addr × Value × Value) → List (Key × List Nat) → Prop where
  | nil : TpRel [] []
  | cons {T : Addr} {key : Key} {text ls : List Nat} {t u : Tok} {tps : List (Addr × Value × Value)} {prs : List (Key × List Nat)} : ls ∈ subsOf modL → (key, text) ∈ pairsOf ls → TpRel tps prs → TpRel ((T, kv key t, .str (Tx text) u) :: tps) ((key, text) :: prs)
theorem TpRel.snoc {tps : List (Addr × Value × Value)} {prs : List (Key × List Nat)} {T : Addr} {key : Key} {text ls : List Nat} {t u : Tok} (h : TpRel tps prs) (h1 : ls ∈ subsOf modL) (h2 : (key, text) ∈ pairsOf ls) : TpRel (tps ++ [(T, kv key t, .str (Tx text) u)]) (prs ++ [(key, text)]) := by
  induction h with
  | nil => exact .cons h1 h2 .nil
  | cons a b _ ih => exact .cons a b ih
theorem TpRel.len {tps : List (Addr × Value × Value)} {prs : List (Key × List Nat)} (h : TpRel tps prs) : tps.length = prs.length := by
  induction h with
  | nil => rfl
  | cons _ _ _ ih => rw [List.length_cons, List.length_cons, ih]
theorem TpRel.at {tps : List (Addr × Value × Value)} {prs : List (Key × List Nat)} (h : TpRel tps prs) : ∀ {i : Nat} {T : Addr} {x y : Value}, tps[i]? = some (T, x, y) → ∃ key text t u ls, x = kv key t ∧ y = .str (Tx text) u ∧ prs[i]? = some (key, text) ∧ ls ∈ subsOf modL ∧ (key, text) ∈ pairsOf ls := by
  induction h with
  | nil => intro i T x y e; simp at e
  | cons a b _ ih =>
    intro i T x y e
    cases i with
    | zero =>
      simp only [List.getElem?_cons_zero, Option.some.injEq, Prod.mk.injEq] at e
      obtain ⟨_, rfl, rfl⟩ := e
      exact ⟨_, _, _, _, _, rfl, rfl, rfl, a, b⟩
    | succ i => exact ih (by simpa using e)
def genJ (D S : Addr) (cell : Addr × Obj) (rest : Led) (k : Int) (i : Nat) (ys : List Value) (nx : Led) : Prop :=
  ∃ (tps : List (Addr × Value × Value)) (prs : List (Key × List Nat)) (k' : Int) (t' : Tok) (n' : Nat), tps.length = i ∧ ys = tps.map (fun p => Value.ref p.1) ∧ nx = (D, deckO S k' t' n') :: cell :: (tupsOf tps ++ rest) ∧ k ≤ k' ∧ k' ≤ k + 20 * i ∧ TpRel tps prs ∧ ∀ q ∈ tps, q.1 ≠ D
section

theorem law_1 {w : World} {mean : ExcName → Option Value} {mg mb : Str → Option Value} {h₀ : Heap} {L fa D S2 : Addr} {cd : Value} {m : Str → Option Value} {s : Shared} {oc : Obj} {vS : List Value} {ns : List Int} {t0 : Tok} {n0 : Nat} {Q : Flow → Shared → Prop} {E : Value → Shared → Prop}
    (X : (hd.heap_39 w.params).In h₀) (T : Top hd.view_39 LS mean mg mb h₀) (B : Below callerA h₀ [] h₀) (F : Fr h₀ L s.heap m) (N : News h₀ L s.heap ((D, deckO S2 0 t0 n0) :: (L + 1, oc) :: (S2, listOf vS.toArray 0) :: [])) (hoc : oc.data = .cell (some (.ref D))) (hI : IntsAre vS ns) (hl : ns.length ≤ 40) (hne1 : D ≠ L + 1) (hne2 : D ≠ S2)
    (ret : ∀ h' tk' m' P nP tps prs k t n, Fr h₀ L h' m' → m' (Str.ofString "pairs") = some (.ref P) → News h₀ L h' ((D, deckO S2 k t n) :: (L + 1, oc) :: (P, refsOf tps nP) :: (tupsOf tps ++ [(S2, listOf vS.toArray 0)])) → TpRel tps prs → 1 ≤ prs.length → prs.length ≤ 6 → 0 ≤ k → k ≤ 200 → (∀ q ∈ tps, q.1 ≠ D) → P ≠ D →
      wpAny (model PySem.Challenge.pw_np0049_01 w) (callerA.deeper (lawEnv w.params L fa cd)) (execs ((lawBody w.params).drop 2) (lawEnv w.params L fa cd)) Q E { s with heap := h', toks := tk' }) :
    wpAny (model PySem.Challenge.pw_np0049_01 w) (callerA.deeper (lawEnv w.params L fa cd)) (execs ((lawBody w.params).drop 1) (lawEnv w.params L fa cd)) Q E s := by
  k_with_none
  k_with "call ref" => (k_here; with_reducible refine held_ ?_)
  k_with "eval ListComp" => (k_here; (with_reducible show wpAny _ _ (eval (.ListComp _ [⟨.Name _ _, _, [], 0⟩] _ _) _) _ _ _); k_dflt (refine' comp_evalN0 ?F ?k1 ?k2 ?k3 ?k4 ?k5 ?_ (by intro _; rfl); (case F => k_asm); (case k1 => with_unfolding_all rfl); (case k2 => decide); (case k3 => rfl); (case k4 => decide); (case k5 => rfl)))
  k_with "exec Assign cons ListComp" => (k_here; with_reducible refine held_ ?_)
  k_with "execs cons" => (k_here; (with_reducible show wpAny _ _ (execs (Stmt.Assign [Expr.Name (Str.ofString "keys") _] _ _ :: _) _) _ _ _); with_reducible refine held_ ?_)
  have hfill : (PySem.Challenge.rw_np0049_01, hd.heap_39) = (PySem.Challenge.rw_np0049_01, hd.heap_39) := by k_fill; rfl
  clear hfill
  change wpAny _ (Around.deeper _ (envOfC _ (Scope.mk _ _ _ _ _) _ _ _)) (execs (_ :: _) (envOfC _ (Scope.mk _ _ _ _ _) _ _ _)) _ _ _
  have hS : ScriptAt S2 ((L + 1, oc) :: (S2, listOf vS.toArray 0) :: []) := ⟨vS, 0, ns, .tail _ (.head _), hI, hl⟩
  have hoff : ∀ p ∈ (L + 1, oc) :: (S2, listOf vS.toArray 0) :: [], p.1 ≠ D := fun p hp => by
    rcases List.mem_cons.mp hp with rfl | hp
    · exact hne1.symm
    · rw [List.mem_singleton.mp hp]; exact hne2.symm
  k_steps
  refine' heldI (comp_assign (c := none) (xs := [Str.ofString "turn"]) (F₀ := F) rfl ?zsw ?zcl ?zce rfl ?znm ?zxs rfl rfl ?_ (by intro _; rfl))
  (case zsw => with_unfolding_all rfl)
  (case zcl => with_unfolding_all rfl)
  (case zce => decide)
  (case znm => decide)
  (case zxs => decide)
  k_steps
  refine heldI (TellD.use (tell_draw' (t0 := t0) (n0 := n0) (Int.le_refl 0) (by decide) hS (by decide) (by decide) hoff) (by k_asm) (by k_asm) (by k_asm) (by k_asm) (by k_asm) rfl (by first | exact room1 hd rfl | ktr_room) (by first | exact room1 hu rfl | ktr_units) ?_)
  rintro _ k1 t1 n1 h1 tk1 F1 N1 hk2 hk3 ⟨x, tx, rfl, hx0, hx1⟩
  k_steps
  obtain ⟨nn, hnn⟩ : ∃ nn : Nat, (1 + x) = (nn : Int) := ⟨(1 + x).toNat, by omega⟩
  rename_i ha1 ha2 ha3 ha4
  rw [hnn] at ha1
  refine heldI (comp_rangeG (genJ D S2 (L + 1, oc) [(S2, listOf vS.toArray 0)] k1) rfl ha1 (by omega) (by k_asm) ha3 ⟨[], [], k1, t1, n1, rfl, rfl, rfl, by omega, by omega, .nil, (fun _ h => nomatch h)⟩ ?_ ?_)
  · rintro i ys nx I oI C oC D0 m₂ h tk E' hi ⟨tps, prs, k2, t2, n2, hlen, rfl, rfl, hk4, hk5, hT, hTD⟩ hoffn hNs F2 N2
    have N3 : News h₀ L h ((D, deckO S2 k2 t2 n2) :: (L + 1, oc) :: (I, oI) :: (C, oC) :: (D0, PyProof.Rows.LCg.lst (tps.map fun p => Value.ref p.1)) :: (tupsOf tps ++ [(S2, listOf vS.toArray 0)])) := cb_drop N2 (by kstt_sub)
    clear N2
    have hks : ScriptAt S2 ((L + 1, oc) :: (I, oI) :: (C, oC) :: (D0, PyProof.Rows.LCg.lst (tps.map fun p => Value.ref p.1)) :: (tupsOf tps ++ [(S2, listOf vS.toArray 0)])) := ⟨vS, 0, ns, .tail _ (.tail _ (.tail _ (.tail _ (List.mem_append_right _ (.head _))))), hI, hl⟩
    have hD := hoffn (D, deckO S2 k2 t2 n2) (.head _)
    have hof : ∀ p ∈ (L + 1, oc) :: (I, oI) :: (C, oC) :: (D0, PyProof.Rows.LCg.lst (tps.map fun p => Value.ref p.1)) :: (tupsOf tps ++ [(S2, listOf vS.toArray 0)]), p.1 ≠ D := fun p hp => by
      simp only [List.mem_cons, List.mem_append, List.not_mem_nil, or_false] at hp
      rcases hp with h1 | h1 | h1 | h1 | h1 | h1
      · rw [h1]; exact hne1.symm
      · rw [h1]; exact hD.1.symm
      · rw [h1]; exact hD.2.1.symm
      · rw [h1]; exact hD.2.2.symm
      · obtain ⟨q, hq, rfl⟩ := List.mem_map.mp h1
        exact hTD q hq
      · rw [h1]; exact hne2.symm
    k_steps
    refine heldI (tell_law_key (k := k2) (t0 := t2) (n0 := n2) (by omega) (by omega) hks hof mean mg mb _ _ _ _ _ _ _ _ _ _ _ _ _ _ _ _ _ (by k_asm) (by k_asm) (by k_asm) (by k_asm) (by k_asm) rfl (by first | exact room1 hd rfl | ktr_room) (by first | exact room1 hu rfl | ktr_units) ?_)
    rintro T1 _ k3 t3 n3 h3 tk3 F3 N4 hT1 hDT hk6 hk7 ⟨key, text, tk5, u5, ls, rfl, hls, hpr⟩
    k_steps
    refine ⟨h3, _, (D, deckO S2 k3 t3 n3) :: (L + 1, oc) :: (tupsOf (tps ++ [(T1, kv key tk5, .str (Tx text) u5)]) ++ [(S2, listOf vS.toArray 0)]), rfl, by k_asm, fun p hp => N4 p ?_, fun p hp => ?_, tps ++ [(T1, kv key tk5, .str (Tx text) u5)], prs ++ [(key, text)], k3, t3, n3, by rw [List.length_append, hlen]; rfl, by rw [List.map_append]; rfl, rfl, by omega, by omega, hT.snoc hls hpr, fun q hq => ?_⟩
    · simp only [tupsOf, List.mem_cons, List.mem_append, List.map_append, List.map_cons, List.map_nil, List.not_mem_nil, or_false] at hp ⊢
      rcases hp with (h1 | h1 | h1) | h1 | h1 | (h1 | h1) | h1
      · exact .inr (.inr (.inr (.inl h1)))
      · exact .inr (.inr (.inr (.inr (.inl h1))))
      · exact .inr (.inr (.inr (.inr (.inr (.inl h1)))))
      · exact .inr (.inl h1)
      · exact .inr (.inr (.inl h1))
      · exact .inr (.inr (.inr (.inr (.inr (.inr (.inl h1))))))
      · exact .inl h1
      · exact .inr (.inr (.inr (.inr (.inr (.inr (.inr h1))))))
    · simp only [tupsOf, List.mem_cons, List.mem_append, List.map_append, List.map_cons, List.map_nil, List.not_mem_nil, or_false] at hp
      rcases hp with h1 | h1 | (h1 | h1) | h1
      · rw [h1]; exact hD
      · exact hoffn p (by rw [h1]; exact .tail _ (.head _))
      · exact hoffn p (.tail _ (.tail _ (List.mem_append_left _ h1)))
      · rw [h1]
        exact ⟨fun e => hT1 (I, oI) (.tail _ (.head _)) e.symm, fun e => hT1 (C, oC) (.tail _ (.tail _ (.head _))) e.symm, fun e => hT1 (D0, _) (.tail _ (.tail _ (.tail _ (.head _)))) e.symm⟩
      · exact hoffn p (by rw [h1]; exact .tail _ (.tail _ (List.mem_append_right _ (.head _))))
    · rcases List.mem_append.mp hq with hq | hq
      · exact hTD q hq
      · rw [List.mem_singleton.mp hq]; exact hDT.symm
  · rintro P h tk ys nx ⟨tps, prs, k2, t2, n2, hlen, rfl, rfl, hk4, hk5, hT, hTD⟩ F2 N2 hoffn
    have hD := hoffn (D, deckO S2 k2 t2 n2) (.head _)
    have hN5 : News h₀ L h ((D, deckO S2 k2 t2 n2) :: (L + 1, oc) :: (P, refsOf tps tps.length) :: (tupsOf tps ++ [(S2, listOf vS.toArray 0)])) := fun p hp => N2 p (by
      simp only [tupsOf, List.mem_cons, List.mem_append, List.not_mem_nil, or_false] at hp ⊢
      rcases hp with h1 | h1 | h1 | h1 | h1
      · exact .inr (.inl h1)
      · exact .inr (.inr (.inl h1))
      · refine .inl ?_
        rw [h1]
        simp [PyProof.Rows.LCg.lst]
      · exact .inr (.inr (.inr (.inl h1)))
      · exact .inr (.inr (.inr (.inr h1))))
    k_steps
    have hpl := hT.len
    exact heldI (ret _ _ _ P _ tps prs k2 t2 n2 (by k_asm) (by rfl) hN5 hT (by omega) (by omega) (by omega) (by omega) hTD hD.symm)
end
end
-- KbZ2
section
section

theorem law_2 {w : World} {mean : ExcName → Option Value} {mg mb : Str → Option Value} {h₀ : Heap} {L fa D P : Addr} {nP : Nat} {cd : Value} {m : Str → Option Value} {s : Shared} {od : Obj} {tps : List (Addr × Value × Value)} {prs : List (Key × List Nat)} {more : Led} {cell : Addr × Obj} {Q : Flow → Shared → Prop} {E : Value → Shared → Prop}
    (X : (hd.heap_39 w.params).In h₀) (T : Top hd.view_39 LS mean mg mb h₀) (B : Below callerA h₀ [] h₀) (F : Fr h₀ L s.heap m) (hm : m (Str.ofString "pairs") = some (.ref P)) (N : News h₀ L s.heap ((D, od) :: cell :: (P, refsOf tps nP) :: (tupsOf tps ++ more))) (hT : TpRel tps prs) (hl : prs.length ≤ 6)
    (ret : ∀ h' tk' m' K vK nK, Fr h₀ L h' m' → m' (Str.ofString "pairs") = some (.ref P) → m' (Str.ofString "keys") = some (.ref K) → News h₀ L h' ((D, od) :: cell :: (K, listOf vK.toArray nK) :: (P, refsOf tps nP) :: (tupsOf tps ++ more)) → KeysAre vK (prs.map (·.1)) → K ≠ D →
      wpAny (model PySem.Challenge.pw_np0049_01 w) (callerA.deeper (lawEnv w.params L fa cd)) (execs ((lawBody w.params).drop 3) (lawEnv w.params L fa cd)) Q E { s with heap := h', toks := tk' }) :
    wpAny (model PySem.Challenge.pw_np0049_01 w) (callerA.deeper (lawEnv w.params L fa cd)) (execs ((lawBody w.params).drop 2) (lawEnv w.params L fa cd)) Q E s := by
  k_with_none
  k_with "call ref" => (k_here; with_reducible refine held_ ?_)
  k_with "exec Assign cons ListComp" => (k_here; with_reducible refine held_ ?_)
  k_with "execs cons" => (k_here; (with_reducible show wpAny _ _ (execs (Stmt.For (Expr.Tuple _ _ _) (Expr.Name (Str.ofString "pairs") _) _ _ _ :: _) _) _ _ _); with_reducible refine held_ ?_)
  have hfill : (PySem.Challenge.rw_np0049_01, hd.heap_39) = (PySem.Challenge.rw_np0049_01, hd.heap_39) := by k_fill; rfl
  clear hfill
  change wpAny _ (Around.deeper _ (envOfC _ (Scope.mk _ _ _ _ _) _ _ _)) (execs (_ :: _) (envOfC _ (Scope.mk _ _ _ _ _) _ _ _)) _ _ _
  obtain ⟨m', rfl⟩ := map1 hm
  have hlen := hT.len
  k_steps
  refine' heldI (comp_assign (c := none) (xs := [Str.ofString "key", Str.ofString "text"]) (F₀ := F) rfl ?zsw ?zcl ?zce rfl ?znm ?zxs rfl rfl ?_ (by intro _; rfl))
  (case zsw => with_unfolding_all rfl)
  (case zcl => with_unfolding_all rfl)
  (case zce => decide)
  (case znm => decide)
  (case zxs => decide)
  k_steps
  refine heldI (comp_pairs (fun i ys nx => nx = (D, od) :: cell :: (P, refsOf tps nP) :: (tupsOf tps ++ more) ∧ KeysAre ys ((prs.take i).map (·.1))) (by rintro i ys nx ⟨rfl, _⟩; rfl) rfl F N (.tail _ (.tail _ (.head _))) (fun p hp => .tail _ (.tail _ (.tail _ (List.mem_append_left _ (List.mem_map_of_mem hp))))) (by rw [hlen, sizeLine_eq]; omega) (by decide) ⟨rfl, .nil⟩ ?_ ?_)
  · rintro i T1 x y ys nx own I C oC Dc m₂ h tk E' hTi hma hmb ⟨rfl, hys⟩ hown hne hN F₂ N₂
    obtain ⟨key, text, t, u, ls, rfl, rfl, hpi, _, _⟩ := hT.at hTi
    dsimp only [CTest]
    have N₃ : News _ _ h ((C, oC) :: (Dc, PyProof.Rows.LCg.lst ys) :: (((D, od) :: cell :: (P, refsOf tps nP) :: (tupsOf tps ++ more)) ++ own)) := cb_drop N₂ (by kstt_sub)
    clear N₂
    k_steps
    refine TEndJ.intro (by k_asm) (by k_asm) (by kstt_sub) ⟨rfl, ?_⟩
    rw [List.take_add_one, hpi, List.map_append]
    exact hys.append (.one rfl)
  · rintro K h tk ys nx ⟨rfl, hys⟩ F₂ N₂ hoffn
    rw [hlen, List.take_length] at hys
    have hD := hoffn (D, od) (.head _)
    have N5 : News h₀ L h ((D, od) :: cell :: (K, listOf ys.toArray ys.length) :: (P, refsOf tps nP) :: (tupsOf tps ++ more)) := fun p hp => N₂ p (by
      simp only [List.mem_cons] at hp ⊢
      rcases hp with h1 | h1 | h1 | h1
      · exact .inr (.inl h1)
      · exact .inr (.inr (.inl h1))
      · exact .inl h1
      · exact .inr (.inr (.inr h1)))
    k_steps
    exact heldI (ret _ _ _ K ys _ (by k_asm) (by rfl) (by rfl) N5 hys hD.symm)
end
end
-- KbZ3
section
theorem tell_skd_key {w : World} {key : Key} {t : Tok} {news : Led} (hk : KeyOk key) : TellV w 198 [kv key t] news 42 336 (fun t => .str (Tx (keyText key)) t) := by
  cases key with
  | inl e =>
    intro mean mg mb dp un gd cn cs a ccd cl outer A₀ base h₀ L m s Q E B F X N T hk' hd hu hret
    exact tell_skd_int hk mean mg mb dp un gd cn cs a ccd cl outer A₀ base h₀ L m s Q E B F X N T hk' (by omega) (by omega) hret
  | inr n =>
    have := tell_skd_str (w := w) (x := Tx n) (t := t) (news := news) (by rw [T_len]; exact hk)
    rwa [lst_Tx] at this
theorem ne_same (x : Str) : (x != x) = false := by simp
section

theorem law_3 {w : World} {mean : ExcName → Option Value} {mg mb : Str → Option Value} {h₀ : Heap} {L fa D P K : Addr} {nP nK : Nat} {vK : List Value} {cd : Value} {m : Str → Option Value} {s : Shared} {od : Obj} {tps : List (Addr × Value × Value)} {prs : List (Key × List Nat)} {more : Led} {cell : Addr × Obj} {Q : Flow → Shared → Prop} {E : Value → Shared → Prop}
    (X : (hd.heap_39 w.params).In h₀) (T : Top hd.view_39 LS mean mg mb h₀) (B : Below callerA h₀ [] h₀) (F : Fr h₀ L s.heap m) (hm : m (Str.ofString "pairs") = some (.ref P)) (hm2 : m (Str.ofString "keys") = some (.ref K)) (N : News h₀ L s.heap ((D, od) :: cell :: (K, listOf vK.toArray nK) :: (P, refsOf tps nP) :: (tupsOf tps ++ more))) (hT : TpRel tps prs)
    (hE : PassesOwn (model PySem.Challenge.pw_np0049_01 w) (callerA.deeper (lawEnv w.params L fa cd)) (lawEnv w.params L fa cd) E)
    (ret : ∀ h' tk' m', Fr h₀ L h' m' → m' (Str.ofString "pairs") = some (.ref P) → m' (Str.ofString "keys") = some (.ref K) → News h₀ L h' ((D, od) :: cell :: (K, listOf vK.toArray nK) :: (P, refsOf tps nP) :: (tupsOf tps ++ more)) →
      wpAny (model PySem.Challenge.pw_np0049_01 w) (callerA.deeper (lawEnv w.params L fa cd)) (execs ((lawBody w.params).drop 4) (lawEnv w.params L fa cd)) Q E { s with heap := h', toks := tk' }) :
    wpAny (model PySem.Challenge.pw_np0049_01 w) (callerA.deeper (lawEnv w.params L fa cd)) (execs ((lawBody w.params).drop 3) (lawEnv w.params L fa cd)) Q E s := by
  k_with_none
  k_with "call ref" => (k_here; with_reducible refine held_ ?_)
  k_with "compareOp NotEq ref ref" => (k_here; with_reducible refine held_ ?_)
  k_with "exec For Tuple Name cons nil" => (k_here; with_reducible refine held_ ?_)
  k_with "execs cons" => (k_here; (with_reducible show wpAny _ _ (execs (Stmt.Assign [Expr.Name (Str.ofString "due") _] _ _ :: _) _) _ _ _); with_reducible refine held_ ?_)
  have hfill : (PySem.Challenge.rw_np0049_01, hd.heap_39) = (PySem.Challenge.rw_np0049_01, hd.heap_39) := by k_fill; rfl
  clear hfill
  change wpAny _ (Around.deeper _ (envOfC _ (Scope.mk _ _ _ _ _) _ _ _)) (execs (_ :: _) (envOfC _ (Scope.mk _ _ _ _ _) _ _ _)) _ _ _
  obtain ⟨m', rfl⟩ := map2 hm hm2
  k_steps
  refine heldI (For_turns F ?_ (hE := hE))
  k_steps
  refine heldI (iter_listN (fun _ m nx => nx = (D, od) :: cell :: (K, listOf vK.toArray nK) :: (P, refsOf tps nP) :: (tupsOf tps ++ more) ∧ m (Str.ofString "pairs") = some (.ref P) ∧ m (Str.ofString "keys") = some (.ref K)) (by rfl) (.tail _ (.tail _ (.tail _ (.head _)))) F N (by rintro i m nx ⟨rfl, _⟩; exact .tail _ (.tail _ (.tail _ (.head _)))) ⟨rfl, rfl, rfl⟩ ?_ ?_)
  · rintro i v m₁ nx h tk own hv hadr hoffo ⟨rfl, hm1, hm2⟩ F₁ N₁
    rw [List.getElem?_map] at hv
    obtain ⟨⟨T1, x, y⟩, hTi, rfl⟩ := Option.map_eq_some_iff.mp hv
    have hTm : (T1, x, y) ∈ tps := List.mem_of_getElem? hTi
    obtain ⟨key, text, t, u, ls, rfl, rfl, hpi, hls, hpr⟩ := hT.at hTi
    refine assign_pair (by rfl) F₁ N₁ ⟨_, (N₁ _ (List.mem_append_left _ (.tail _ (.tail _ (.tail _ (.tail _ (List.mem_append_left _ (List.mem_map_of_mem hTm)))))))).1, rfl, 0, rfl⟩ rfl rfl rfl fun h2 tk2 F2 N2 => ?_
    obtain ⟨m2, rfl⟩ := map2 hm1 hm2
    clear F₁ N₁ F N
    have hw := pair_word hls hpr
    have hfine := fine_ok (pair_fine hls hpr)
    obtain ⟨hkt, _, _, hok, htl, _⟩ := wg_facts hw
    have hne := ne_same (Tx text)
    k_steps
    refine heldI (TellV.use (tell_skd_key hfine.1) (by k_asm) (by k_asm) (by k_asm) (by k_asm) (by k_asm) rfl (by first | exact room1 hd rfl | ktr_room) (by first | exact room1 hu rfl | ktr_units) ?_)
    rw [hkt]
    intro t3 h3 tk3 F3 N3
    k_steps
    refine heldI (TellN.use2 (tell_kbd_al (x := Tx text) (ws := [text]) (ks := [key]) (by rw [T_len]; omega) (by rw [lst_Tx]; exact words_one hok) (.cons hw .nil) (by simp)) (by k_asm) (by k_asm) (by k_asm) (by k_asm) (by k_asm) rfl (by first | exact room1 hd rfl | ktr_room) (by first | exact room1 hu rfl | ktr_units) ?_)
    intro U vU nU h4 tk4 F4 N4 l4 hU
    k_steps
    refine heldI (ne_keys (ks := [key]) (by k_asm) (.tail _ (.head _)) (.head _) hU (.one rfl) (fun k hk => by rw [List.mem_singleton.mp hk]; exact hfine.2) (by first | exact room1 hu rfl | ktr_units) ?_)
    k_steps
    refine InvEndN.intro (J := fun m nx => nx = (D, od) :: cell :: (K, listOf vK.toArray nK) :: (P, refsOf tps nP) :: (tupsOf tps ++ more) ∧ m (Str.ofString "pairs") = some (.ref P) ∧ m (Str.ofString "keys") = some (.ref K)) (by k_asm) (by k_asm) ⟨rfl, by rfl, by rfl⟩ rfl (by kstt_sub) (by kstt_sub)
  · rintro m₁ nx h tk ⟨rfl, hm1, hm2⟩ F₁ N₁
    k_steps
    exact heldI (ret _ _ _ F₁ hm1 hm2 N₁)
end
end
-- KbZ4
section
theorem keys_tail {vs : List Value} {ks : List Key} (h : KeysAre vs ks) : KeysAre (vs.drop 1) (ks.drop 1) := by
  cases h with
  | nil => exact .nil
  | cons _ h => exact h
theorem keys_head {vs : List Value} {ks : List Key} (h : KeysAre vs ks) : KeysAre (vs.take 1) (ks.take 1) := by
  cases h with
  | nil => exact .nil
  | cons e h => exact .cons e .nil
theorem TpRel.keys {tps : List (Addr × Value × Value)} {prs : List (Key × List Nat)} (h : TpRel tps prs) : ∀ k ∈ prs.map (·.1), GoodKey k := by
  induction h with
  | nil => exact fun k hk => nomatch hk
  | cons a b _ ih =>
    intro k hk
    rcases List.mem_cons.mp hk with rfl | hk
    · exact ⟨_, _, a, b⟩
    · exact ih k hk
theorem joined_str : ∀ ks : List Key, (∀ k ∈ ks, KeyStr k) → ∀ k ∈ joined ks, KeyStr k
  | [], _ => by simp [joined]
  | .inr n :: r, h => by
    rw [joined_inr]
    intro k hk
    rcases List.mem_cons.mp hk with rfl | hk
    · exact h _ (.head _)
    · exact joined_str r (fun a ha => h a (.tail _ ha)) k hk
  | [.inl e], h => by rw [joined_esc_end]; exact h
  | .inl e :: .inr n :: r, h => by
    rw [joined_esc_inr]
    intro k hk
    rcases List.mem_cons.mp hk with rfl | hk
    · exact trivial
    · exact joined_str (.inr n :: r) (fun a ha => h a (.tail _ ha)) k hk
  | .inl e :: .inl e2 :: r, h => by
    rw [joined]
    split
    · intro k hk
      rcases List.mem_cons.mp hk with rfl | hk
      · exact trivial
      · exact joined_str r (fun a ha => h a (.tail _ (.tail _ ha))) k hk
    · intro k hk
      rcases List.mem_cons.mp hk with rfl | hk
      · exact trivial
      · exact joined_str (.inl e2 :: r) (fun a ha => h a (.tail _ ha)) k hk
section

theorem law_4 {w : World} {mean : ExcName → Option Value} {mg mb : Str → Option Value} {h₀ : Heap} {L fa D P K : Addr} {nP nK : Nat} {vK : List Value} {cd : Value} {m : Str → Option Value} {s : Shared} {od : Obj} {ks : List Key} {more : Led} {cell : Addr × Obj} {Q : Flow → Shared → Prop} {E : Value → Shared → Prop}
    (X : (hd.heap_39 w.params).In h₀) (T : Top hd.view_39 LS mean mg mb h₀) (B : Below callerA h₀ [] h₀) (F : Fr h₀ L s.heap m) (hm : m (Str.ofString "pairs") = some (.ref P)) (hm2 : m (Str.ofString "keys") = some (.ref K)) (N : News h₀ L s.heap ((D, od) :: cell :: (K, listOf vK.toArray nK) :: more)) (hks : KeysAre vK ks) (hg : ∀ k ∈ ks, GoodKey k) (hl1 : 1 ≤ ks.length) (hl6 : ks.length ≤ 6)
    (ret : ∀ h' tk' m', Fr h₀ L h' m' → m' (Str.ofString "pairs") = some (.ref P) → m' (Str.ofString "keys") = some (.ref K) → News h₀ L h' ((D, od) :: cell :: (K, listOf vK.toArray nK) :: more) →
      wpAny (model PySem.Challenge.pw_np0049_01 w) (callerA.deeper (lawEnv w.params L fa cd)) (execs ((lawBody w.params).drop 6) (lawEnv w.params L fa cd)) Q E { s with heap := h', toks := tk' }) :
    wpAny (model PySem.Challenge.pw_np0049_01 w) (callerA.deeper (lawEnv w.params L fa cd)) (execs ((lawBody w.params).drop 4) (lawEnv w.params L fa cd)) Q E s := by
  k_with_none
  k_with "call ref" => (k_here; with_reducible refine held_ ?_)
  k_with "compareOp NotEq ref ref" => (k_here; with_reducible refine held_ ?_)
  k_with "call type:tuple" => (k_here; with_reducible refine held_ ?_)
  k_with "subscriptTail Name Slice ref ref" => (k_here; with_reducible refine held_ ?_)
  k_with "execs cons" => (k_here; (with_reducible show wpAny _ _ (execs (Stmt.If _ _ _ _ :: Stmt.Assign _ _ _ :: _) _) _ _ _); with_reducible refine held_ ?_)
  have hfill : (PySem.Challenge.rw_np0049_01, hd.heap_39) = (PySem.Challenge.rw_np0049_01, hd.heap_39) := by k_fill; rfl
  clear hfill
  change wpAny _ (Around.deeper _ (envOfC _ (Scope.mk _ _ _ _ _) _ _ _)) (execs (_ :: _) (envOfC _ (Scope.mk _ _ _ _ _) _ _ _)) _ _ _
  obtain ⟨m', rfl⟩ := map2 hm hm2
  have hok : ∀ k ∈ ks, KeyOk k := fun k hk => (fine_ok (hg k hk).fine).1
  have hstr : ∀ k ∈ ks, KeyStr k := fun k hk => (fine_ok (hg k hk).fine).2
  have hA := desc_good hg
  obtain ⟨hz1, hz2, hz3⟩ := desc_sizes hg hl6
  have hjl := joined_len ks
  have hjstr : ∀ k ∈ joined ks, KeyStr k := joined_str ks hstr
  k_steps
  refine heldI (TellN.use2 (tell_law_joined (K := K) (.tail _ (.tail _ (.head _))) hks (by omega) hstr) (by k_asm) (by k_asm) (by k_asm) (by k_asm) (by k_asm) rfl (by first | exact room1 hd rfl | ktr_room) (by first | exact room1 hu rfl | ktr_units) ?_)
  intro J1 vJ nJ h1 tk1 F1 N1 l1 hJ
  k_steps
  refine heldI (kde_tupleOf (by k_asm) (by k_asm) (News.isList (by k_asm) (.head _)) (by rw [List.size_toArray, hJ.len]; omega) rfl fun U h2 F2 N2 l2 => ?_)
  have N2' : News h₀ L h2 ((U, ({ cls := .type "tuple", data := .seq vJ.toArray 0 } : Obj)) :: (J1, listOf vJ.toArray nJ) :: (D, od) :: cell :: (K, listOf vK.toArray nK) :: more) := N2
  clear N2
  k_steps
  refine heldI (kde_tupleOf (by k_asm) (by k_asm) (News.isList (by k_asm) (.tail _ (.tail _ (.tail _ (.tail _ (.head _)))))) (by rw [List.size_toArray, hks.len]; omega) rfl fun V h3 F3 N3 l3 => ?_)
  have N3' : News h₀ L h3 ((V, ({ cls := .type "tuple", data := .seq vK.toArray 0 } : Obj)) :: (U, ({ cls := .type "tuple", data := .seq vJ.toArray 0 } : Obj)) :: (J1, listOf vJ.toArray nJ) :: (D, od) :: cell :: (K, listOf vK.toArray nK) :: more) := N3
  clear N3
  k_steps
  refine heldI (TellV.use (tell_key_description_t (T := V) (.head _) hks hok (by omega) (by omega)) (by k_asm) (by k_asm) (by k_asm) (by k_asm) (by k_asm) rfl (by first | exact room1 hd rfl | ktr_room) (by first | exact room1 hu rfl | ktr_units) ?_)
  intro t4 h4 tk4 F4 N4
  k_steps
  refine heldI (TellN.use2 (tell_kbd_al (x := Tx (joinWords (descGo false ks))) (by rw [T_len]; omega) (by rw [lst_Tx]; exact hz3) hA (by omega)) (by k_asm) (by k_asm) (by k_asm) (by k_asm) (by k_asm) rfl (by first | exact room1 hd rfl | ktr_room) (by first | exact room1 hu rfl | ktr_units) ?_)
  intro U5 vU nU h5 tk5 F5 N5 l5 hU
  k_steps
  refine heldI (ne_keys (ks := joined ks) (by k_asm) (.head _) (.tail _ (.tail _ (.head _))) hU hJ hjstr (by first | exact room1 hu rfl | ktr_units) ?_)
  k_steps
  refine heldI ?_
  k_dflt (refine' kms_slice_lit (zs := vK.drop 1) ?zF ?zN ?zl ?zp ?zq ?ze ?_ ?zs ?zt ?zz; (case zF => k_asm); (case zN => k_asm); (case zl => exact News.isList (by k_asm) (by k_mem)); (case zp => kmk_part); (case zq => kmk_part); (case ze => exact pick_tail _); (case zs => with_unfolding_all rfl); (case zt => kmk_pure); (case zz => rw [List.size_toArray, hks.len, sizeLine_eq]; omega))
  intro D6 h6 F6 N6 l6
  k_steps
  refine heldI ?_
  k_dflt (refine' kms_slice_lit (zs := vK.take 1) ?zF ?zN ?zl ?zp ?zq ?ze ?_ ?zs ?zt ?zz; (case zF => k_asm); (case zN => k_asm); (case zl => exact News.isList (by k_asm) (by k_mem)); (case zp => kmk_part); (case zq => kmk_part); (case ze => exact pick_head _); (case zs => with_unfolding_all rfl); (case zt => kmk_pure); (case zz => rw [List.size_toArray, hks.len, sizeLine_eq]; omega))
  intro D7 h7 F7 N7 l7
  k_steps
  have htd : ks.take 1 ++ ks.drop 1 = ks := List.take_append_drop 1 ks
  refine heldI (TellV.use (tell_key_description_l (A := D6) (B := D7) (.tail _ (.head _)) (.head _) (keys_tail hks) (keys_head hks) (by intro q; rw [q] at htd; have := congrArg List.length htd; simp at this; omega) (by rw [htd]; exact hok) (by rw [htd]; omega) (by rw [htd]; omega)) (by k_asm) (by k_asm) (by k_asm) (by k_asm) (by k_asm) rfl (by first | exact room1 hd rfl | ktr_room) (by first | exact room1 hu rfl | ktr_units) ?_)
  rw [htd]
  intro t8 h8 tk8 F8 N8
  k_steps
  refine heldI (TellN.use2 (tell_kbd_al (x := Tx (joinWords (descGo false ks))) (by rw [T_len]; omega) (by rw [lst_Tx]; exact hz3) hA (by omega)) (by k_asm) (by k_asm) (by k_asm) (by k_asm) (by k_asm) rfl (by first | exact room1 hd rfl | ktr_room) (by first | exact room1 hu rfl | ktr_units) ?_)
  intro U9 vU9 nU9 h9 tk9 F9 N9 l9 hU9
  k_steps
  refine heldI (ne_keys (ks := joined ks) (by k_asm) (.head _) (.tail _ (.tail _ (.tail _ (.tail _ (.tail _ (.head _)))))) hU9 hJ hjstr (by first | exact room1 hu rfl | ktr_units) ?_)
  k_steps
  exact heldI (ret _ _ _ F9 (by rfl) (by rfl) (cb_drop N9 (by kstt_sub)))
end
end
-- KbZ5
section
theorem TpRel.al {tps : List (Addr × Value × Value)} {prs : List (Key × List Nat)} (h : TpRel tps prs) : Al (prs.map (·.2)) (prs.map (·.1)) := by
  induction h with
  | nil => exact .nil
  | cons a b _ ih => exact .cons (pair_word a b) ih
section

theorem law_5 {w : World} {mean : ExcName → Option Value} {mg mb : Str → Option Value} {h₀ : Heap} {L fa D P K S2 : Addr} {nP nK : Nat} {vK vS : List Value} {ns : List Int} {cd : Value} {m : Str → Option Value} {s : Shared} {oc : Obj} {k : Int} {t0 : Tok} {n0 : Nat} {tps : List (Addr × Value × Value)} {prs : List (Key × List Nat)} {Q : Flow → Shared → Prop} {E : Value → Shared → Prop}
    (X : (hd.heap_39 w.params).In h₀) (T : Top hd.view_39 LS mean mg mb h₀) (B : Below callerA h₀ [] h₀) (F : Fr h₀ L s.heap m) (hm : m (Str.ofString "pairs") = some (.ref P)) (hm2 : m (Str.ofString "keys") = some (.ref K)) (N : News h₀ L s.heap ((D, deckO S2 k t0 n0) :: (L + 1, oc) :: (K, listOf vK.toArray nK) :: (P, refsOf tps nP) :: (tupsOf tps ++ [(S2, listOf vS.toArray 0)]))) (hoc : oc.data = .cell (some (.ref D)))
    (hoff : ∀ p ∈ (L + 1, oc) :: (K, listOf vK.toArray nK) :: (P, refsOf tps nP) :: (tupsOf tps ++ [(S2, listOf vS.toArray 0)]), p.1 ≠ D) (hI : IntsAre vS ns) (hl : ns.length ≤ 40) (hks : KeysAre vK (prs.map (·.1))) (hT : TpRel tps prs) (hl6 : prs.length ≤ 6) (hk0 : 0 ≤ k) (hk1 : k ≤ 200)
    (ret : ∀ h' tk' m' k' t' n', Fr h₀ L h' m' → m' (Str.ofString "pairs") = some (.ref P) → News h₀ L h' ((D, deckO S2 k' t' n') :: (L + 1, oc) :: (K, listOf vK.toArray nK) :: (P, refsOf tps nP) :: (tupsOf tps ++ [(S2, listOf vS.toArray 0)])) → 0 ≤ k' → k' ≤ 300 →
      wpAny (model PySem.Challenge.pw_np0049_01 w) (callerA.deeper (lawEnv w.params L fa cd)) (execs ((lawBody w.params).drop 7) (lawEnv w.params L fa cd)) Q E { s with heap := h', toks := tk' }) :
    wpAny (model PySem.Challenge.pw_np0049_01 w) (callerA.deeper (lawEnv w.params L fa cd)) (execs ((lawBody w.params).drop 6) (lawEnv w.params L fa cd)) Q E s := by
  k_with_none
  k_with "call ref" => (k_here; with_reducible refine held_ ?_)
  k_with "compareOp NotEq ref ref" => (k_here; with_reducible refine held_ ?_)
  k_with "call type:tuple" => (k_here; with_reducible refine held_ ?_)
  k_with "eval ListComp" => (k_here; with_reducible refine held_ ?_)
  k_with "execs cons" => (k_here; (with_reducible show wpAny _ _ (execs (Stmt.Assign [Expr.Tuple _ _ _] _ _ :: _) _) _ _ _); with_reducible refine held_ ?_)
  have hfill : (PySem.Challenge.rw_np0049_01, hd.heap_39) = (PySem.Challenge.rw_np0049_01, hd.heap_39) := by k_fill; rfl
  clear hfill
  change wpAny _ (Around.deeper _ (envOfC _ (Scope.mk _ _ _ _ _) _ _ _)) (execs (_ :: _) (envOfC _ (Scope.mk _ _ _ _ _) _ _ _)) _ _ _
  obtain ⟨m', rfl⟩ := map2 hm hm2
  have hlen := hT.len
  have hAl := hT.al
  have hstr : ∀ k ∈ prs.map (·.1), KeyStr k := fun k hk => (fine_ok (hT.keys k hk).fine).2
  have hkl : (prs.map (·.1)).length ≤ 6 := by rw [List.length_map]; exact hl6
  k_steps
  refine' heldI (comp_eval (c := none) (xs := [Str.ofString "key", Str.ofString "text"]) (_F₀ := F) ?zcl ?zce rfl ?znm ?zxs ?_ (by intro _; rfl))
  (case zcl => with_unfolding_all rfl)
  (case zce => decide)
  (case znm => decide)
  (case zxs => decide)
  k_steps
  refine heldI (comp_pairs (fun i ys nx => nx = (D, deckO S2 k t0 n0) :: (L + 1, oc) :: (K, listOf vK.toArray nK) :: (P, refsOf tps nP) :: (tupsOf tps ++ [(S2, listOf vS.toArray 0)]) ∧ StrsAre ys (((prs.take i).map (·.2)).map Tx)) (by rintro i ys nx ⟨rfl, _⟩; rfl) rfl F N (.tail _ (.tail _ (.tail _ (.head _)))) (fun p hp => .tail _ (.tail _ (.tail _ (.tail _ (List.mem_append_left _ (List.mem_map_of_mem hp)))))) (by rw [hlen, sizeLine_eq]; omega) (by decide) ⟨rfl, .nil⟩ ?_ ?_)
  · rintro i T1 x y ys nx own I C oC Dc m₂ h tk E' hTi hma hmb ⟨rfl, hys⟩ hown hne hN F₂ N₂
    obtain ⟨key, text, t, u, ls, rfl, rfl, hpi, _, _⟩ := hT.at hTi
    dsimp only [CTest]
    have N₃ : News _ _ h ((C, oC) :: (Dc, PyProof.Rows.LCg.lst ys) :: (((D, deckO S2 k t0 n0) :: (L + 1, oc) :: (K, listOf vK.toArray nK) :: (P, refsOf tps nP) :: (tupsOf tps ++ [(S2, listOf vS.toArray 0)])) ++ own)) := cb_drop N₂ (by kstt_sub)
    clear N₂
    k_steps
    refine TEndJ.intro (by k_asm) (by k_asm) (by kstt_sub) ⟨rfl, ?_⟩
    rw [List.take_add_one, hpi, List.map_append, List.map_append]
    exact hys.append' (.cons _ _ .nil)
  · rintro W h tk ys nx ⟨rfl, hys⟩ F₂ N₂ hoffn
    rw [hlen, List.take_length] at hys
    have hD := hoffn (D, deckO S2 k t0 n0) (.head _)
    have N5 : News h₀ L h ((D, deckO S2 k t0 n0) :: (W, listOf ys.toArray ys.length) :: (L + 1, oc) :: (K, listOf vK.toArray nK) :: (P, refsOf tps nP) :: (tupsOf tps ++ [(S2, listOf vS.toArray 0)])) := fun p hp => N₂ p (by
      simp only [List.mem_cons] at hp ⊢
      rcases hp with h1 | h1 | h1
      · exact .inr (.inl h1)
      · exact .inl h1
      · exact .inr (.inr h1))
    clear N₂
    have hks2 : ScriptAt S2 ((W, listOf ys.toArray ys.length) :: (L + 1, oc) :: (K, listOf vK.toArray nK) :: (P, refsOf tps nP) :: (tupsOf tps ++ [(S2, listOf vS.toArray 0)])) := ⟨vS, 0, ns, .tail _ (.tail _ (.tail _ (.tail _ (List.mem_append_right _ (.head _))))), hI, hl⟩
    have hwl : ∀ a ∈ prs.map (·.2), a.length ≤ 100 := fun a ha => by have := (hAl.words a ha).2; omega
    k_steps
    refine heldI (TellD.use (tell_law_spread (k := k) (t0 := t0) (n0 := n0) (ws := prs.map (·.2)) hk0 (by omega) hks2 (fun p hp => (List.mem_cons.mp hp).elim (fun e => by rw [e]; exact hD.symm) (hoff p)) (.head _) hys (by rw [List.length_map]; omega) hwl) (by k_asm) (by k_asm) (by k_asm) (by k_asm) (by k_asm) rfl (by first | exact room1 hd rfl | ktr_room) (by first | exact room1 hu rfl | ktr_units) ?_)
    rintro _ k3 t3 n3 h3 tk3 F3 N3 hk2 hk3 ⟨out, t4, rfl, hsp, hol⟩
    k_steps
    refine heldI (TellN.use2 (tell_kbd_al (x := Tx out) (by rw [T_len]; omega) (by rw [lst_Tx]; exact spread_words hsp fun w hw => (hAl.words w hw).1) hAl (by omega)) (by k_asm) (by k_asm) (by k_asm) (by k_asm) (by k_asm) rfl (by first | exact room1 hd rfl | ktr_room) (by first | exact room1 hu rfl | ktr_units) ?_)
    intro U vU nU h5 tk5 F5 N5 l5 hU
    k_steps
    refine heldI (kde_tupleOf (by k_asm) (by k_asm) (News.isList (by k_asm) (.tail _ (.tail _ (.tail _ (.tail _ (.head _)))))) (by rw [List.size_toArray, hks.len]; omega) rfl fun V h6 F6 N6 l6 => ?_)
    have N6' : News h₀ L h6 ((V, ({ cls := .type "tuple", data := .seq vK.toArray 0 } : Obj)) :: (U, ({ cls := .type "tuple", data := .seq vU.toArray nU } : Obj)) :: (D, deckO S2 k3 t3 n3) :: (W, listOf ys.toArray ys.length) :: (L + 1, oc) :: (K, listOf vK.toArray nK) :: (P, refsOf tps nP) :: (tupsOf tps ++ [(S2, listOf vS.toArray 0)])) := N6
    clear N6
    k_steps
    refine heldI (ne_keys (ks := prs.map (·.1)) (by k_asm) (.tail _ (.head _)) (.head _) hU hks hstr (by first | exact room1 hu rfl | ktr_units) ?_)
    k_steps
    exact heldI (ret _ _ _ k3 t3 n3 (by k_asm) (by rfl) (cb_drop N6' (by kstt_sub)) (by omega) (by omega))
end
end
-- KbZ6
section
theorem str_small {prog : Program} {w : World} {A : Around} {E : Value → Shared → Prop} {s : Shared} {Q : Value → Shared → Prop} {mm : Nat} {t : Tok} (hm : mm ≤ 4) (h : Q (.str (Tx [48 + mm]) s.toks) { s with toks := s.toks + 1 }) : wpAny (model prog w) A (call (.type "str") [.int (mm : Int) t]) Q E s := by
  have e : Str.ofString (toString (mm : Int)) = Tx [48 + mm] := by
    match mm, hm with
    | 0, _ => decide +kernel
    | 1, _ => decide +kernel
    | 2, _ => decide +kernel
    | 3, _ => decide +kernel
    | 4, _ => decide +kernel
  rw [← e] at h
  refine P.str_of_int ?_ h
  match mm, hm with
  | 0, _ => decide +kernel
  | 1, _ => decide +kernel
  | 2, _ => decide +kernel
  | 3, _ => decide +kernel
  | 4, _ => decide +kernel
theorem keys_replicate {v : Value} {k : Key} (h : ∃ t, v = kv k t) : ∀ n : Nat, KeysAre (List.replicate n v) (List.replicate n k)
  | 0 => .nil
  | n + 1 => .cons h (keys_replicate h n)
noncomputable def wordTest (w : List Nat) (out : List Key) : Bool := match timesOf w with
  | none => false
  | some (n, r) => match wordKeys r with
    | none => false
    | some kk => decide (digitsAt w ≤ 1) && decide (out = repeatKeys n kk) && decide (n ≤ 9) && decide (kk.length ≤ 1000) && decide (w.length ≤ 4000) && decide (r.length ≤ 4000)
theorem word_test {w : List Nat} {out : List Key} (h : wordTest w out = true) : WordRel w out := by
  unfold wordTest at h
  split at h
  · cases h
  · rename_i n r e1
    split at h
    · cases h
    · rename_i kk e2
      simp only [Bool.and_eq_true, decide_eq_true_eq] at h
      obtain ⟨⟨⟨⟨⟨h1, h2⟩, h3⟩, h4⟩, h5⟩, h6⟩ := h
      exact ⟨n, r, kk, e1, h1, e2, h2, h3, h4, h5, h6⟩
noncomputable def readsTest : List (List Nat) → List (List Key) → Bool
  | [], [] => true
  | w :: ws, o :: os => wordTest w o && readsTest ws os
  | _, _ => false
theorem reads_test : ∀ {ws : List (List Nat)} {outs : List (List Key)}, readsTest ws outs = true → Reads ws outs ∧ ws.length = outs.length
  | [], [], _ => ⟨fun i w e => by simp at e, rfl⟩
  | w :: ws, o :: os, h => by
    unfold readsTest at h
    rw [Bool.and_eq_true] at h
    obtain ⟨h1, h2⟩ := reads_test h.2
    refine ⟨fun i v e => ?_, by rw [List.length_cons, List.length_cons, h2]⟩
    cases i with
    | zero =>
      simp only [List.getElem?_cons_zero, Option.some.injEq] at e
      subst e
      exact ⟨o, rfl, word_test h.1⟩
    | succ i => exact h1 i v (by simpa using e)
  | [], _ :: _, h => nomatch h
  | _ :: _, [], h => nomatch h
section

theorem law_6 {w : World} {mean : ExcName → Option Value} {mg mb : Str → Option Value} {h₀ : Heap} {L fa D P S2 T0 : Addr} {nP : Nat} {vS : List Value} {ns : List Int} {cd : Value} {m : Str → Option Value} {s : Shared} {oc : Obj} {k : Int} {t0 t1 t2 : Tok} {n0 : Nat} {key : Key} {text ls : List Nat} {vP : List Value} {Q : Flow → Shared → Prop} {E : Value → Shared → Prop}
    (X : (hd.heap_39 w.params).In h₀) (T : Top hd.view_39 LS mean mg mb h₀) (B : Below callerA h₀ [] h₀) (F : Fr h₀ L s.heap m) (hm : m (Str.ofString "pairs") = some (.ref P)) (N : News h₀ L s.heap ((D, deckO S2 k t0 n0) :: (L + 1, oc) :: (P, listOf (Value.ref T0 :: vP).toArray nP) :: (T0, ({ cls := .type "tuple", data := .seq #[kv key t1, .str (Tx text) t2] } : Obj)) :: (S2, listOf vS.toArray 0) :: [])) (hoc : oc.data = .cell (some (.ref D)))
    (hoff : ∀ p ∈ (L + 1, oc) :: (P, listOf (Value.ref T0 :: vP).toArray nP) :: (T0, ({ cls := .type "tuple", data := .seq #[kv key t1, .str (Tx text) t2] } : Obj)) :: (S2, listOf vS.toArray 0) :: [], p.1 ≠ D) (hI : IntsAre vS ns) (hl : ns.length ≤ 40) (hls : ls ∈ subsOf modL) (hpr : (key, text) ∈ pairsOf ls) (hvP : vP.length ≤ 10) (hk0 : 0 ≤ k) (hk1 : k ≤ 300)
    (ret : ∀ h' tk' m' k' t' n', Fr h₀ L h' m' → News h₀ L h' ((D, deckO S2 k' t' n') :: (L + 1, oc) :: (S2, listOf vS.toArray 0) :: []) → 0 ≤ k' → k' ≤ 400 →
      wpAny (model PySem.Challenge.pw_np0049_01 w) (callerA.deeper (lawEnv w.params L fa cd)) (execs ((lawBody w.params).drop 9) (lawEnv w.params L fa cd)) Q E { s with heap := h', toks := tk' }) :
    wpAny (model PySem.Challenge.pw_np0049_01 w) (callerA.deeper (lawEnv w.params L fa cd)) (execs ((lawBody w.params).drop 7) (lawEnv w.params L fa cd)) Q E s := by
  k_with_none
  k_with "call ref" => (k_here; with_reducible refine held_ ?_)
  k_with "compareOp NotEq ref ref" => (k_here; with_reducible refine held_ ?_)
  k_with "call type:tuple" => (k_here; with_reducible refine held_ ?_)
  k_with "eval ListComp" => (k_here; with_reducible refine held_ ?_)
  k_with "call type:str" => (k_here; with_reducible refine held_ ?_)
  k_with "execs cons" => (k_here; (with_reducible show wpAny _ _ (execs (Stmt.If _ _ _ _ :: Stmt.Return _ _ :: []) _) _ _ _); with_reducible refine held_ ?_)
  have hfill : (PySem.Challenge.rw_np0049_01, hd.heap_39) = (PySem.Challenge.rw_np0049_01, hd.heap_39) := by k_fill; rfl
  clear hfill
  change wpAny _ (Around.deeper _ (envOfC _ (Scope.mk _ _ _ _ _) _ _ _)) (execs (_ :: _) (envOfC _ (Scope.mk _ _ _ _ _) _ _ _)) _ _ _
  obtain ⟨m', rfl⟩ := map1 hm
  have hw := pair_word hls hpr
  have hfine := fine_ok (pair_fine hls hpr)
  obtain ⟨hkt, _, _, hok, htl, _⟩ := wg_facts hw
  have hks2 : ScriptAt S2 ((L + 1, oc) :: (P, listOf (Value.ref T0 :: vP).toArray nP) :: (T0, ({ cls := .type "tuple", data := .seq #[kv key t1, .str (Tx text) t2] } : Obj)) :: (S2, listOf vS.toArray 0) :: []) := ⟨vS, 0, ns, .tail _ (.tail _ (.tail _ (.head _))), hI, hl⟩
  k_steps
  refine heldI (TellD.use (tell_draw' (t0 := t0) (n0 := n0) hk0 (by omega) hks2 (by decide) (by decide) hoff) (by k_asm) (by k_asm) (by k_asm) (by k_asm) (by k_asm) rfl (by first | exact room1 hd rfl | ktr_room) (by first | exact room1 hu rfl | ktr_units) ?_)
  rintro _ k3 t3 n3 h3 tk3 F3 N3 hk2 hk3 ⟨x, tx, rfl, hx0, hx1⟩
  obtain ⟨mm, rfl, hmm⟩ : ∃ mm : Nat, x = (mm : Int) ∧ mm ≤ 4 := ⟨x.toNat, by omega, by omega⟩
  have htw := times_word (m := mm) hw hmm
  k_steps
  have hX1 : (Tx [48 + mm]).length = 1 := by rw [T_len]; rfl
  have hX2 : (Tx text).length ≤ 30 := by rw [T_len]; exact htl
  have hX3 : (Tx [48 + mm] ++ Str.ofString "*").length ≤ 2 := by rw [lst_len, lst_app, List.length_append, ← lst_len, hX1]; decide +kernel
  refine heldI (str_small hmm ?_)
  k_steps
  have hcat : Lst (Tx [48 + mm] ++ Str.ofString "*" ++ Tx text) = (48 + mm) :: 42 :: text := by
    rw [lst_app, lst_app, lst_Tx, lst_Tx, show Lst (Str.ofString "*") = [42] by decide +kernel]; rfl
  have hXl : (Tx [48 + mm] ++ Str.ofString "*" ++ Tx text).length ≤ 4000 := by
    rw [lst_len, hcat, List.length_cons, List.length_cons]; omega
  have hrd : Reads (wordsOf (Lst (Tx [48 + mm] ++ Str.ofString "*" ++ Tx text))) [List.replicate mm key] := by
    rw [hcat, htw.1]
    intro i w e
    cases i with
    | zero =>
      simp only [List.getElem?_cons_zero, Option.some.injEq] at e
      subst e
      exact ⟨_, rfl, htw.2⟩
    | succ i => simp at e
  refine heldI (TellN.use2 (tell_kbd hXl hrd (by rw [hcat, htw.1]; rfl) (by simp; omega)) (by k_asm) (by k_asm) (by k_asm) (by k_asm) (by k_asm) rfl (by first | exact room1 hd rfl | ktr_room) (by first | exact room1 hu rfl | ktr_units) ?_)
  intro U vU nU h5 tk5 F5 N5 l5 hU
  rw [show [List.replicate mm key].flatten = List.replicate mm key by simp] at hU
  k_steps
  refine (mul_tup1 (by k_asm) (by k_asm) (.head _) hmm fun V h6 n6 F6 N6 => ?_)
  have hkr : KeysAre (List.replicate mm (kv key t1)) (List.replicate mm key) := keys_replicate ⟨t1, rfl⟩ mm
  k_steps
  refine heldI (ne_keys (ks := List.replicate mm key) (by k_asm) (.tail _ (.tail _ (.head _))) (.head _) hU hkr (fun k hk => by rw [List.eq_of_mem_replicate hk]; exact hfine.2) (by first | exact room1 hu rfl | ktr_units) ?_)
  k_steps
  have hrd2 := reads_test (ws := wordsOf (Lst (Str.ofString "ab*" ++ Str.ofString " 2*xy"))) (outs := [[.inl 97, .inl 98, .inl 42], [.inl 120, .inl 121, .inl 120, .inl 121]]) (by decide +kernel)
  refine heldI (TellN.use2 (tell_kbd (by decide +kernel) hrd2.1 hrd2.2 (by decide)) (by k_asm) (by k_asm) (by k_asm) (by k_asm) (by k_asm) rfl (by first | exact room1 hd rfl | ktr_room) (by first | exact room1 hu rfl | ktr_units) ?_)
  intro W1 vW nW h7 tk7 F7 N7 l7 hW
  k_steps
  refine' heldI (comp_eval (c := none) (xs := [Str.ofString "one"]) (_F₀ := F7) ?zcl ?zce rfl ?znm ?zxs ?_ (by intro _; rfl))
  (case zcl => with_unfolding_all rfl)
  (case zce => decide)
  (case znm => decide)
  (case zxs => decide)
  k_steps
  refine heldI (comp_str (fun i ys => KeysAre ys (plainKeys ((Lst (Str.ofString "ab*xyxy")).take i))) (by rfl) (by k_asm) (by k_asm) (by decide +kernel) (by exact .nil) ?_ ?_)
  · intro i cc u ys own C oC D m₂ h tk E' hcc hJ hN hm F9 N9
    dsimp only [CTest]
    k_steps
    exact TEnd.intro (by k_asm) (by k_asm) (fun _ h => h) (sign_step hcc hJ)
  · intro D1 h tk ys hJ F9 N9 o9
    rw [show (Lst (Str.ofString "ab*xyxy")).take (Str.ofString "ab*xyxy").length = Lst (Str.ofString "ab*xyxy") by decide +kernel] at hJ
    have hys : ys.length = 7 := by rw [hJ.len]; decide +kernel
    k_steps
    refine heldI (kde_tupleOf (by k_asm) (by k_asm) (News.isList (by k_asm) (.head _)) (by rw [List.size_toArray, hys]; decide) rfl fun V2 h8 F8 N8 l8 => ?_)
    have hJ2 : KeysAre ys ([[.inl 97, .inl 98, .inl 42], [.inl 120, .inl 121, .inl 120, .inl 121]] : List (List Key)).flatten := by
      rw [show plainKeys (Lst (Str.ofString "ab*xyxy")) = ([[.inl 97, .inl 98, .inl 42], [.inl 120, .inl 121, .inl 120, .inl 121]] : List (List Key)).flatten by decide +kernel] at hJ
      exact hJ
    k_steps
    refine heldI (ne_keys (by k_asm) (.tail _ (.tail _ (.head _))) (.head _) hW hJ2 (fun k hk => by simp at hk; rcases hk with rfl | rfl | rfl | rfl | rfl | rfl | rfl <;> exact trivial) (by first | exact room1 hu rfl | ktr_units) ?_)
    k_steps
    exact heldI (ret _ _ _ k3 t3 n3 (by k_asm) (cb_drop N8 (by kstt_sub)) (by omega) (by omega))
end
end
-- KbZ7
section
section

theorem law_7 {w : World} {mean : ExcName → Option Value} {mg mb : Str → Option Value} {h₀ : Heap} {L fa D S2 : Addr} {vS : List Value} {ns : List Int} {cd : Value} {m : Str → Option Value} {s : Shared} {oc : Obj} {k : Int} {t0 : Tok} {n0 : Nat} {Q : Flow → Shared → Prop} {E : Value → Shared → Prop}
    (X : (hd.heap_39 w.params).In h₀) (T : Top hd.view_39 LS mean mg mb h₀) (B : Below callerA h₀ [] h₀) (F : Fr h₀ L s.heap m) (N : News h₀ L s.heap ((D, deckO S2 k t0 n0) :: (L + 1, oc) :: (S2, listOf vS.toArray 0) :: [])) (hoc : oc.data = .cell (some (.ref D)))
    (hoff : ∀ p ∈ (L + 1, oc) :: (S2, listOf vS.toArray 0) :: [], p.1 ≠ D) (hI : IntsAre vS ns) (hl : ns.length ≤ 40) (hk0 : 0 ≤ k) (hk1 : k ≤ 400)
    (ret : ∀ h' tk' m', Fr h₀ L h' m' → Q (.ret (.bool true)) { s with heap := h', toks := tk' }) :
    wpAny (model PySem.Challenge.pw_np0049_01 w) (callerA.deeper (lawEnv w.params L fa cd)) (execs ((lawBody w.params).drop 9) (lawEnv w.params L fa cd)) Q E s := by
  k_with_none
  k_with "call ref" => (k_here; with_reducible refine held_ ?_)
  k_with "compareOp NotEq ref ref" => (k_here; with_reducible refine held_ ?_)
  have hfill : (PySem.Challenge.rw_np0049_01, hd.heap_39) = (PySem.Challenge.rw_np0049_01, hd.heap_39) := by k_fill; rfl
  clear hfill
  change wpAny _ (Around.deeper _ (envOfC _ (Scope.mk _ _ _ _ _) _ _ _)) (execs (_ :: _) (envOfC _ (Scope.mk _ _ _ _ _) _ _ _)) _ _ _
  have hks2 : ScriptAt S2 ((L + 1, oc) :: (S2, listOf vS.toArray 0) :: []) := ⟨vS, 0, ns, .tail _ (.head _), hI, hl⟩
  k_steps
  have hrd := reads_test (ws := wordsOf (Lst (Str.ofString "<<go>> ^? ^a C-RET"))) (outs := [[.inl 134217848, .inl 103, .inl 111, .inl 13], [.inl 127], [.inl 1], [.inl 13]]) (by decide +kernel)
  refine heldI (TellN.use2 (tell_kbd (by decide +kernel) hrd.1 hrd.2 (by decide)) (by k_asm) (by k_asm) (by k_asm) (by k_asm) (by k_asm) rfl (by first | exact room1 hd rfl | ktr_room) (by first | exact room1 hu rfl | ktr_units) ?_)
  intro U vU nU h1 tk1 F1 N1 l1 hU
  k_steps
  rw [show (120 + 2 ^ Int.toNat 27 : Int) = 134217848 by decide +kernel] at *
  refine heldI (ne_keys (by k_asm) (.tail _ (.head _)) (.head _) hU (.cons ⟨_, rfl⟩ (.cons ⟨_, rfl⟩ (.cons ⟨_, rfl⟩ (.cons ⟨_, rfl⟩ (.cons ⟨_, rfl⟩ (.cons ⟨_, rfl⟩ (.cons ⟨_, rfl⟩ .nil))))))) (fun k hk => by simp at hk; rcases hk with rfl | rfl | rfl | rfl | rfl | rfl | rfl <;> exact trivial) (by first | exact room1 hu rfl | ktr_units) ?_)
  k_steps
  have hrd2 := reads_test (ws := wordsOf (Lst (Str.ofString ""))) (outs := []) (by decide +kernel)
  refine heldI (TellN.use2 (tell_kbd (by decide +kernel) hrd2.1 hrd2.2 (by decide)) (by k_asm) (by k_asm) (by k_asm) (by k_asm) (by k_asm) rfl (by first | exact room1 hd rfl | ktr_room) (by first | exact room1 hu rfl | ktr_units) ?_)
  intro W1 vW nW h3 tk3 F3 N3 l3 hW
  k_steps
  refine heldI (ne_keys (by k_asm) (.tail _ (.head _)) (.head _) hW .nil (fun k hk => nomatch hk) (by first | exact room1 hu rfl | ktr_units) ?_)
  k_steps
  rename_i V5 h5 F5 N5 l5
  have N6 : News h₀ L h5 ((D, deckO S2 k t0 n0) :: (V5, listOf (List.toArray [Value.str (Str.ofString "C-xy") tk, Value.str (Str.ofString "M-<up") (tk + 1), Value.str (Str.ofString "A-C-ab x") (tk + 1 + 1), Value.str (Str.ofString "a S-RETX") (tk + 1 + 1 + 1)]) 0) :: (L + 1, oc) :: (S2, listOf vS.toArray 0) :: []) := cb_drop N5 (by kstt_sub)
  have hoff2 : ∀ p ∈ (V5, listOf (List.toArray [Value.str (Str.ofString "C-xy") tk, Value.str (Str.ofString "M-<up") (tk + 1), Value.str (Str.ofString "A-C-ab x") (tk + 1 + 1), Value.str (Str.ofString "a S-RETX") (tk + 1 + 1 + 1)]) 0) :: (L + 1, oc) :: (S2, listOf vS.toArray 0) :: [], p.1 ≠ D := List.forall_mem_cons.mpr ⟨by k_ne, hoff⟩
  refine heldI (TellD.use (tell_pick (A := V5) (t0 := t0) (n0 := n0) hk0 (by omega) (hks2.mono (by (repeat ((with_reducible refine List.forall_mem_cons.mpr ⟨?_, ?_⟩); focus k_mem)); intro p hp; repeat (first | with_reducible_and_instances exact hp | refine List.Mem.tail _ ?_))) (.head _) (by exact Nat.succ_pos _) (by simp only [List.length_cons, List.length_nil]; omega) hoff2) (by k_asm) (by k_asm) (by k_asm) N6 (by k_asm) rfl (by first | exact room1 hd rfl | ktr_room) (by first | exact room1 hu rfl | ktr_units) ?_)
  clear N5 N6
  intro r k7 t7 n7 h7 tk7 F7 N7 hk7 hk8 hr
  k_steps
  refine heldI (tell_refused hr mean mg mb _ _ _ _ _ _ _ _ _ _ _ _ _ _ _ (by k_asm) (by k_asm) (by k_asm) (by k_asm) rfl (by first | exact room1 hd rfl | ktr_room) (by first | exact room1 hu rfl | ktr_units) ?_)
  clear N7
  intro h8 tk8 F8
  have N8 : News h₀ L h8 [] := News.nil
  k_steps
  refine heldI (TellV.use (tell_key_description_t (vK := []) (ks := []) (.head _) .nil (fun k hk => nomatch hk) (by decide) (by decide)) (by k_asm) (by k_asm) (by k_asm) (by k_asm) (by k_asm) rfl (by first | exact room1 hd rfl | ktr_room) (by first | exact room1 hu rfl | ktr_units) ?_)
  intro t9 h9 tk9 F9 N9
  rw [show Tx (joinWords (descGo false [])) = Str.ofString "" by decide +kernel]
  k_steps
  rw [show (Str.ofString "" == Str.ofString "") = true by decide +kernel]
  exact ret _ _ _ F9
end
end
-- KbZ8
section
theorem law_all {w : World} {mean : ExcName → Option Value} {mg mb : Str → Option Value} {h₀ : Heap} {L fa S : Addr} {cd : Value} {m : Str → Option Value} {s : Shared} {oc : Obj} {vS : List Value} {ns : List Int} {Q : Flow → Shared → Prop} {E : Value → Shared → Prop}
    (X : (hd.heap_39 w.params).In h₀) (T : Top hd.view_39 LS mean mg mb h₀) (B : Below callerA h₀ [] h₀) (F : Fr h₀ L s.heap m) (N : News h₀ L s.heap [(L + 1, oc)]) (hoc : oc.data = .cell none) (hm : m (Str.ofString "script") = some (.ref S)) (hS : h₀.IsList S vS.toArray) (hI : IntsAre vS ns) (hl : ns.length ≤ 63)
    (hE : PassesOwn (model PySem.Challenge.pw_np0049_01 w) (callerA.deeper (lawEnv w.params L fa cd)) (lawEnv w.params L fa cd) E)
    (ret : ∀ h' tk' m', Fr h₀ L h' m' → Q (.ret (.bool true)) { s with heap := h', toks := tk' }) :
    wpAny (model PySem.Challenge.pw_np0049_01 w) (callerA.deeper (lawEnv w.params L fa cd)) (execs (lawBody w.params) (lawEnv w.params L fa cd)) Q E s := by
  have hI2 : IntsAre (vS.take 40) (ns.take 40) := hI.take 40
  have hl2 : (ns.take 40).length ≤ 40 := by rw [List.length_take]; omega
  refine law_0 X T B F N hoc hm hS hI hl ?_
  intro h1 tk1 D S2 t1 n1 oc1 m1 F1 N1 hoc1 hD1 hD2
  try dsimp only
  refine law_1 X T B F1 N1 hoc1 hI2 hl2 hD1 hD2 ?_
  intro h2 tk2 m2 P nP tps prs k2 t2 n2 F2 hm2 N2 hT hp1 hp6 hk0 hk1 hto hPD
  try dsimp only
  refine law_2 X T B F2 hm2 N2 hT hp6 ?_
  intro h3 tk3 m3 K vK nK F3 hm3 hmk3 N3 hK hKD
  try dsimp only
  refine law_3 X T B F3 hm3 hmk3 N3 hT hE ?_
  intro h4 tk4 m4 F4 hm4 hmk4 N4
  try dsimp only
  refine law_4 (nP := nP) X T B F4 hm4 hmk4 N4 hK hT.keys (by rw [List.length_map]; exact hp1) (by rw [List.length_map]; exact hp6) ?_
  intro h5 tk5 m5 F5 hm5 hmk5 N5
  have hoff : ∀ p ∈ (L + 1, oc1) :: (K, listOf vK.toArray nK) :: (P, refsOf tps nP) :: (tupsOf tps ++ [(S2, listOf (vS.take 40).toArray 0)]), p.1 ≠ D := by
    intro p hp
    simp only [List.mem_cons, List.mem_append, List.not_mem_nil, or_false] at hp
    rcases hp with rfl | rfl | rfl | hp | rfl
    · exact fun e => hD1 e.symm
    · exact hKD
    · exact hPD
    · obtain ⟨q, hq, rfl⟩ := List.mem_map.mp hp
      exact hto q hq
    · exact fun e => hD2 e.symm
  try dsimp only
  refine law_5 X T B F5 hm5 hmk5 N5 hoc1 hoff hI2 hl2 hK hT hp6 hk0 hk1 ?_
  intro h6 tk6 m6 k6 t6 n6 F6 hm6 N6 hk60 hk61
  cases hT with
  | nil => exact absurd hp1 (by decide)
  | @cons T0 key text ls t u tps prs a b r =>
    have hlen := r.len
    have hv : (tps.map fun p => Value.ref p.1).length ≤ 10 := by
      rw [List.length_map, hlen]
      rw [List.length_cons] at hp6
      omega
    have N6' : News h₀ L h6 ((D, deckO S2 k6 t6 n6) :: (L + 1, oc1) :: (P, listOf (Value.ref T0 :: tps.map fun p => Value.ref p.1).toArray nP) :: (T0, ({ cls := .type "tuple", data := .seq #[kv key t, .str (Tx text) u] } : Obj)) :: (S2, listOf (vS.take 40).toArray 0) :: []) := by
      refine cb_drop N6 ?_
      intro p hp
      simp only [List.mem_cons, List.mem_append, List.not_mem_nil, or_false] at hp ⊢
      rcases hp with rfl | rfl | rfl | rfl | rfl
      · exact .inl rfl
      · exact .inr (.inl rfl)
      · exact .inr (.inr (.inr (.inl rfl)))
      · exact .inr (.inr (.inr (.inr (.inl (.head _)))))
      · exact .inr (.inr (.inr (.inr (.inr rfl))))
    try dsimp only
    refine law_6 (t0 := t6) (n0 := n6) (nP := nP) (S2 := S2) (vP := tps.map fun p => Value.ref p.1) (T0 := T0) (t1 := t) (t2 := u) (key := key) (text := text) X T B F6 hm6 N6' hoc1 ?_ hI2 hl2 a b hv hk60 hk61 ?_
    · intro p hp
      simp only [List.mem_cons, List.not_mem_nil, or_false] at hp
      rcases hp with rfl | rfl | rfl | rfl
      · exact fun e => hD1 e.symm
      · exact hPD
      · exact hto _ (.head _)
      · exact fun e => hD2 e.symm
    intro h7 tk7 m7 k7 t7 n7 F7 N7 hk70 hk71
    try dsimp only
    refine law_7 (t0 := t7) (n0 := n7) (k := k7) X T B F7 N7 hoc1 ?_ hI2 hl2 hk70 hk71 ?_
    · intro p hp
      simp only [List.mem_cons, List.not_mem_nil, or_false] at hp
      rcases hp with rfl | rfl
      · exact fun e => hD1 e.symm
      · exact fun e => hD2 e.symm
    intro h8 tk8 m8 F8
    exact ret h8 tk8 m8 F8
end
-- KbZ9
section
set_option maxHeartbeats 16000000 in
theorem top_np0049 : PySem.Challenge.rw_np0049_01.Holds := hd (d := _) rfl rfl rfl (by
  k_with_none
  k_fill
  intro w s₀ s₁ mg mb G Y fa o pm cd doc dV kV ho hd hcd hD hmg hg args vals as hpre hlay hrd hwl hlo
  have KX := kIn_of Y
  refine Ground.open G ?_
  intro T B D TE TW
  try (refine guard_noD D (by decide +kernel) ?_; clear D)
  obtain ⟨_, _, M⟩ := bmod_of_top T
  have TA := at_of_top T
  try (obtain ⟨_, _, he, B0⟩ := based_of_top T rfl hmg ho hd; have he' : cd = _ := he; subst he'; clear he)
  clear hmg
  wrow_args hpre hlay hrd hwl hlo
  all_goals (
    first | refine callC_kw (enter_call ?_) | refine enter_call ?_ | refine callC_kw (enter_callW ?_) | refine enter_callW ?_ | w_how
    w_top on
    try refine codeAny_mono ?_ (fun _ _ g => GoodW.toG g)
    have K0 := below_caller (Top.heap T)
    w_call any ho hd hcd hD T F
    clear hd TA
    k_drop
    skip)

  rename_i b1 b2 c1 c2 ns hs hlay0 hLL hrr hl2 l1 l2 S vS l3 hL ra w1 r0 hI hr hlen hcc h₁ tk₁ oc hoc N0 X0
  have B0 : Below callerA s₁.heap [] s₁.heap := K0
  have hl63 : ns.length ≤ 63 := by omega
  clear TE TW M
  dsimp only
  refine law_all (w := w) (fa := fa) (cd := .ref c1) (S := S) (vS := vS) (ns := ns) (oc := oc) KX T B0 F N0 hoc (by rfl) hL hI hl63 (by passes_own) ?_
  clear F N0 X0 hoc
  intro h' tk' m' F'
  k_steps)
end
end
end Mine
theorem PySem.Challenge.cw_np0049_01_holds : PySem.Challenge.rw_np0049_01.Holds := by
  exact Mine.top_np0049
