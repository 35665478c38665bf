import PyProof.Rows.All
import Wide.All
import Open.Line
import Open.Boot
import Open.Tree
import Open.FastT9
import OpenK.KWalk
import OpenK.KCall
import Wide.FinOn
import PySem.Challenge.RW_sx_zcanopyofobjects_4
set_option Elab.async false
set_option linter.unusedVariables false
set_option linter.unusedSimpArgs false
namespace Mine
open PySem

/-! flat conjunctions -/
structure C3 (A B C : Prop) : Prop where
  c1 : A
  c2 : B
  c3 : C
structure C4 (A B C D : Prop) : Prop where
  c1 : A
  c2 : B
  c3 : C
  c4 : D
structure C5 (A B C D E : Prop) : Prop where
  c1 : A
  c2 : B
  c3 : C
  c4 : D
  c5 : E
structure C6 (A B C D E F : Prop) : Prop where
  c1 : A
  c2 : B
  c3 : C
  c4 : D
  c5 : E
  c6 : F
structure C7 (A B C D E F G : Prop) : Prop where
  c1 : A
  c2 : B
  c3 : C
  c4 : D
  c5 : E
  c6 : F
  c7 : G
structure C8 (A B C D E F G H : Prop) : Prop where
  c1 : A
  c2 : B
  c3 : C
  c4 : D
  c5 : E
  c6 : F
  c7 : G
  c8 : H
structure C9 (A B C D E F G H I : Prop) : Prop where
  c1 : A
  c2 : B
  c3 : C
  c4 : D
  c5 : E
  c6 : F
  c7 : G
  c8 : H
  c9 : I
structure C12 (A B C D E F G H I J K L : Prop) : Prop where
  c1 : A
  c2 : B
  c3 : C
  c4 : D
  c5 : E
  c6 : F
  c7 : G
  c8 : H
  c9 : I
  c10 : J
  c11 : K
  c12 : L

/-- abstract values -/
inductive AV where
  | none
  | bool (b : Bool)
  | int (i : Int)
  | ref (a : Addr)
  | typ (n : String)
  | fro (ns : List Int)
  | rng (lo : Int) (n : Nat) (st : Int)
  | tup (xs : List AV)

/-- abstract objects -/
inductive AO where
  | lst (xs : List AV)
  | inst (C d : Addr)
  | dict (fs : List (Str × AV))
  | tab (g : Heap) (ps : Array Value)

noncomputable abbrev AH := Addr → Option AO
noncomputable abbrev LM := Str → Option AV

mutual
noncomputable def VR (b h : Heap) : AV → Value → Prop
  | .none, v => v = .none
  | .bool x, v => v = .bool x
  | .int i, v => ∃ t, v = .int i t
  | .ref a, v => v = .ref a
  | .typ n, v => v = .type n
  | .fro ns, v => ∃ a vs, v = .ref a ∧ b.IsList a vs.toArray ∧ ∃ ts : List Tok, ts.length = ns.length ∧ vs = List.zipWith Value.int ns ts
  | .rng lo n st, v => ∃ a hi t u w, v = .ref a ∧ IsRange h a lo hi st t u w ∧ Builtin.Range.small lo hi st = true ∧ Builtin.Range.rangeSize lo hi st = n
  | .tup xs, v => ∃ a vs, v = .ref a ∧ PyProof.Rows.IsTup h a vs.toArray ∧ VRs b h xs vs
noncomputable def VRs (b h : Heap) : List AV → List Value → Prop
  | [], vs => vs = []
  | x :: xs, vs => ∃ v r, vs = v :: r ∧ VR b h x v ∧ VRs b h xs r
end

theorem VRs.length {b h : Heap} : ∀ {xs : List AV} {vs : List Value}, VRs b h xs vs → vs.length = xs.length
  | [], _, e => by simp only [VRs] at e; subst e; rfl
  | x :: xs, _, e => by
    simp only [VRs] at e
    obtain ⟨v, r, rfl, _, h2⟩ := e
    simp [VRs.length h2]

theorem VRs.get {b h : Heap} : ∀ {xs : List AV} {vs : List Value}, VRs b h xs vs → ∀ {i : Nat} {x : AV}, xs[i]? = some x → ∃ v, vs[i]? = some v ∧ VR b h x v
  | [], _, _, i, x, hx => by simp at hx
  | y :: ys, _, e, 0, x, hx => by
    simp only [VRs] at e
    obtain ⟨v, r, rfl, h1, h2⟩ := e
    simp at hx; subst hx
    exact ⟨v, rfl, h1⟩
  | y :: ys, _, e, i + 1, x, hx => by
    simp only [VRs] at e
    obtain ⟨v, r, rfl, h1, h2⟩ := e
    simp at hx
    obtain ⟨v', hv', h'⟩ := VRs.get h2 hx
    exact ⟨v', by simpa using hv', h'⟩

theorem VRs.append {b h : Heap} : ∀ {xs : List AV} {vs : List Value} {ys : List AV} {ws : List Value}, VRs b h xs vs → VRs b h ys ws → VRs b h (xs ++ ys) (vs ++ ws)
  | [], _, _, _, e, e' => by simp only [VRs] at e; subst e; exact e'
  | x :: xs, _, ys, ws, e, e' => by
    simp only [VRs] at e
    obtain ⟨v, r, rfl, h1, h2⟩ := e
    simp only [List.cons_append, VRs]
    exact ⟨v, r ++ ws, rfl, h1, VRs.append h2 e'⟩

theorem VRs.drop {b h : Heap} : ∀ {xs : List AV} {vs : List Value} (n : Nat), VRs b h xs vs → VRs b h (xs.drop n) (vs.drop n)
  | xs, vs, 0, e => e
  | [], _, n + 1, e => by simp only [VRs] at e; subst e; simp [VRs]
  | x :: xs, _, n + 1, e => by
    simp only [VRs] at e
    obtain ⟨v, r, rfl, h1, h2⟩ := e
    simpa using VRs.drop n h2

theorem VRs.take {b h : Heap} : ∀ {xs : List AV} {vs : List Value} (n : Nat), VRs b h xs vs → VRs b h (xs.take n) (vs.take n)
  | xs, vs, 0, e => by simp [VRs]
  | [], _, n + 1, e => by simp only [VRs] at e; subst e; simp [VRs]
  | x :: xs, _, n + 1, e => by
    simp only [VRs] at e
    obtain ⟨v, r, rfl, h1, h2⟩ := e
    simp only [List.take_succ_cons, VRs]
    exact ⟨v, _, rfl, h1, VRs.take n h2⟩

/-- the tuples of h stand in h' -/
noncomputable def TupKept (h h' : Heap) : Prop := ∀ a o, (o.cls = .type "tuple" ∨ o.cls = .type "range") → ((∃ xs n, o.data = .seq xs n) ∨ ∃ vs, o.data = .fields vs) → h.get? a = some o → h'.get? a = some o

mutual
theorem VR.kept {b h h' : Heap} (k : TupKept h h') : ∀ {x : AV} {v : Value}, VR b h x v → VR b h' x v
  | .none, _, e => e
  | .bool _, _, e => e
  | .int _, _, e => e
  | .ref _, _, e => e
  | .typ _, _, e => e
  | .fro _, _, e => e
  | .rng _ _ _, v, e => by
    simp only [VR] at e ⊢
    obtain ⟨a, hi, t, u, w, rfl, ho, r⟩ := e
    exact ⟨a, hi, t, u, w, rfl, k a _ (.inr rfl) (.inr ⟨_, rfl⟩) ho, r⟩
  | .tup xs, v, e => by
    simp only [VR] at e ⊢
    obtain ⟨a, vs, rfl, ⟨o, ho, hc, n, hd⟩, h2⟩ := e
    exact ⟨a, vs, rfl, ⟨o, k a o (.inl hc) (.inl ⟨_, n, hd⟩) ho, hc, n, hd⟩, VRs.kept k h2⟩
theorem VRs.kept {b h h' : Heap} (k : TupKept h h') : ∀ {xs : List AV} {vs : List Value}, VRs b h xs vs → VRs b h' xs vs
  | [], _, e => e
  | x :: xs, _, e => by
    simp only [VRs] at e ⊢
    obtain ⟨v, r, rfl, h1, h2⟩ := e
    exact ⟨v, r, rfl, VR.kept k h1, VRs.kept k h2⟩
end

/-- the entries of an object's dict -/
noncomputable def ER (b h : Heap) : List (Str × AV) → List DictEntry → Prop
  | [], es => es = []
  | (n, x) :: fs, es => ∃ e r t, es = e :: r ∧ e.key = .str n t ∧ VR b h x e.val ∧ ER b h fs r

theorem ER.kept {b h h' : Heap} (k : TupKept h h') : ∀ {fs : List (Str × AV)} {es : List DictEntry}, ER b h fs es → ER b h' fs es
  | [], _, e => e
  | (n, x) :: fs, _, e => by
    simp only [ER] at e ⊢
    obtain ⟨e', r, t, rfl, h1, h2, h3⟩ := e
    exact ⟨e', r, t, rfl, h1, VR.kept k h2, ER.kept k h3⟩

noncomputable def OR (b h : Heap) (a : Addr) : AO → Prop
  | .lst xs => ∃ vs, h.PlainList a vs.toArray ∧ VRs b h xs vs
  | .inst C d => h.get? a = some { cls := .ref C, dict := some d, data := .plain }
  | .dict fs => ∃ es n, h.get? a = some { cls := .type "dict", data := .dict (List.toArray es) n } ∧ ER b h fs es
  | .tab g ps => h.get? a = some { cls := .none, data := .fields ps } ∧ g.get? a = some { cls := .none, data := .fields ps } ∧ g.objs.size = b.objs.size ∧ ∀ x, x ≠ a → g.get? x = b.get? x

theorem OR.kept {b h h' : Heap} (k : TupKept h h') {a : Addr} (ha : ∀ o, h.get? a = some o → h'.get? a = some o) : ∀ {o : AO}, OR b h a o → OR b h' a o
  | .lst _, ⟨vs, h1, h2⟩ => ⟨vs, h1.at ha, VRs.kept k h2⟩
  | .inst _ _, e => ha _ e
  | .dict _, ⟨es, n, h1, h2⟩ => ⟨es, n, ha _ h1, ER.kept k h2⟩
  | .tab _ _, ⟨h1, h2⟩ => ⟨ha _ h1, h2⟩
theorem OR.there {b h : Heap} {a : Addr} : ∀ {o : AO}, OR b h a o → ∃ ob, h.get? a = some ob ∧ ¬ (ob.cls = .type "tuple" ∨ ob.cls = .type "range") ∧ (∀ v, ob.data ≠ .cell v)
  | .lst _, ⟨_, ⟨_, h1⟩, _⟩ => ⟨_, h1, by simp, by simp⟩
  | .inst _ _, e => ⟨_, e, by simp, by simp⟩
  | .dict _, ⟨_, _, h1, _⟩ => ⟨_, h1, by simp, by simp⟩
  | .tab _ _, ⟨h1, _⟩ => ⟨_, h1, by simp, by simp⟩

structure Cx where
  prog : Program
  w : World
  b : Heap
  gp : Array GenState → Drawn → Prop

structure GH (c : Cx) (H : AH) (s : Shared) : Prop where
  objs : ∀ a o, H a = some o → OR c.b s.heap a o ∧ c.b.get? a = none
  keep : ∀ a o, c.b.get? a = some o → s.heap.get? a = some o
  bare : c.gp s.gens s.drawn

structure Tr (H : AH) (s : Shared) (H' : AH) (s' : Shared) : Prop where
  keep : ∀ a o, H a = none → s.heap.get? a = some o → s'.heap.get? a = some o
  dom : ∀ a o, H a = none → s.heap.get? a = some o → H' a = none
  os : s'.os = s.os

theorem Tr.refl (H : AH) (s : Shared) : Tr H s H s := ⟨fun _ _ _ e => e, fun _ _ e _ => e, rfl⟩
theorem Tr.trans {H H₁ H₂ : AH} {s s₁ s₂ : Shared} (x : Tr H s H₁ s₁) (y : Tr H₁ s₁ H₂ s₂) : Tr H s H₂ s₂ :=
  ⟨fun a o h e => y.keep a o (x.dom a o h e) (x.keep a o h e), fun a o h e => y.dom a o (x.dom a o h e) (x.keep a o h e), y.os.trans x.os⟩

theorem Tr.tup {c : Cx} {H H' : AH} {s s' : Shared} (G : GH c H s) (x : Tr H s H' s') : TupKept s.heap s'.heap := by
  intro a o hc _ e
  refine x.keep a o ?_ e
  cases hH : H a with
  | none => rfl
  | some ob =>
    obtain ⟨o', e', n, _⟩ := (G.objs a ob hH).1.there
    rw [e] at e'; cases e'; exact absurd hc n

/-- where a name's value lies -/
noncomputable def ValAt (b : Heap) (env : Env) (mr : Str → Option Value) (h : Heap) (x : Str) (v : AV) : Prop :=
  (env.kindOf x = some .local ∧ ∃ rv, mr x = some rv ∧ VR b h v rv) ∨
  ((env.kindOf x = some .cell ∨ env.kindOf x = some .free) ∧ ∃ c rv, env.cells.lookup x = some c ∧ h.IsCell c (some rv) ∧ VR b h v rv)

structure GF (c : Cx) (env : Env) (m : LM) (H : AH) (s : Shared) : Prop where
  own : H env.locals = none
  new : c.b.get? env.locals = none
  cells : ∀ x cc, env.cells.lookup x = some cc → H cc = none ∧ c.b.get? cc = none ∧ ∃ v, s.heap.IsCell cc v
  ns : ∃ mr, s.heap.Ns env.locals mr ∧ ∀ x v, m x = some v → ValAt c.b env mr s.heap x v

theorem GF.tr {c : Cx} {env : Env} {m : LM} {H H' : AH} {s s' : Shared} (F : GF c env m H s) (G : GH c H s) (x : Tr H s H' s') : GF c env m H' s' := by
  obtain ⟨mr, hn, hv⟩ := F.ns
  have tk := x.tup G
  obtain ⟨oL, es, ep, ho, r⟩ := id hn
  refine ⟨x.dom _ _ F.own ho, F.new, fun y cc e => ?_, mr, ⟨oL, es, ep, x.keep _ _ F.own ho, r⟩, fun y v e => ?_⟩
  · obtain ⟨h1, h2, v, oc, h3, h4⟩ := F.cells y cc e
    exact ⟨x.dom _ _ h1 h3, h2, v, oc, x.keep _ _ h1 h3, h4⟩
  · rcases hv y v e with ⟨h1, rv, h2, h3⟩ | ⟨h1, cc, rv, h2, ⟨oc, h4, h5⟩, h6⟩
    · exact .inl ⟨h1, rv, h2, h3.kept tk⟩
    · exact .inr ⟨h1, cc, rv, h2, ⟨oc, x.keep _ _ (F.cells y cc h2).1 h4, h5⟩, h6.kept tk⟩

/-- forgetting -/
theorem GH.mono {c : Cx} {H H' : AH} {s : Shared} (G : GH c H s) (h : ∀ a o, H' a = some o → H a = some o) : GH c H' s := ⟨fun a o e => G.objs a o (h a o e), G.keep, G.bare⟩
theorem Tr.less {H H₁ H' : AH} {s s' : Shared} (x : Tr H s H₁ s') (h : ∀ a o, H' a = some o → H₁ a = some o) : Tr H s H' s' :=
  ⟨x.keep, fun a o e g => by
    cases hq : H' a with
    | none => rfl
    | some ob => (have := x.dom a o e g; rw [h a ob hq] at this; cases this), x.os⟩

noncomputable def NoE : Value → Shared → Prop := fun _ _ => False

noncomputable abbrev Ends (c : Cx) (H : AH) (s : Shared) (Q : AV → AH → Prop) (v : Value) (s' : Shared) : Prop := ∃ av H', VR c.b s'.heap av v ∧ GH c H' s' ∧ Tr H s H' s' ∧ Q av H'

noncomputable def EOk (c : Cx) (A : Around) (env : Env) (e : Expr) (m : LM) (H : AH) (Q : AV → AH → Prop) : Prop :=
  ∀ s, GH c H s → GF c env m H s → wpAny (model c.prog c.w) A (eval e env) (Ends c H s Q) NoE s

/-- a test -/
noncomputable def TOk (c : Cx) (A : Around) (env : Env) (e : Expr) (m : LM) (H : AH) (Q : Bool → AH → Prop) : Prop :=
  ∀ s, GH c H s → GF c env m H s → wpAny (model c.prog c.w) A (isTrue e env (eval e env)) (fun b s' => ∃ H', GH c H' s' ∧ Tr H s H' s' ∧ Q b H') NoE s

/-- items one by one -/
noncomputable def EsOk (c : Cx) (A : Around) (env : Env) (es : List Expr) (m : LM) (H : AH) (Q : List AV → AH → Prop) : Prop :=
  ∀ s pos, GH c H s → GF c env m H s → wpAny (model c.prog c.w) A (spliced (backTo pos (starEach es env))) (fun vs s' => ∃ avs H', VRs c.b s'.heap avs vs ∧ GH c H' s' ∧ Tr H s H' s' ∧ Q avs H') NoE s

inductive AFl where
  | next | brk | cont | ret (v : AV)

noncomputable def FlR (b h : Heap) : AFl → Flow → Prop
  | .next, f => f = .next
  | .brk, f => f = .brk
  | .cont, f => f = .cont
  | .ret v, f => ∃ rv, f = .ret rv ∧ VR b h v rv

/-- what a statement leaves -/
structure TrS (env : Env) (H : AH) (s : Shared) (H' : AH) (s' : Shared) : Prop where
  keep : ∀ a o, H a = none → a ≠ env.locals → (∀ x, env.cells.lookup x ≠ some a) → s.heap.get? a = some o → s'.heap.get? a = some o
  live : ∀ a o, H a = none → s.heap.get? a = some o → ∃ o', s'.heap.get? a = some o'
  dom : ∀ a o, H a = none → s.heap.get? a = some o → H' a = none
  os : s'.os = s.os

noncomputable def SOk (c : Cx) (A : Around) (env : Env) (t : Sem Flow) (m : LM) (H : AH) (Q : AFl → LM → AH → Prop) : Prop :=
  ∀ s, GH c H s → GF c env m H s → wpAny (model c.prog c.w) A t (fun f s' => ∃ fl m' H', FlR c.b s'.heap fl f ∧ GH c H' s' ∧ GF c env m' H' s' ∧ TrS env H s H' s' ∧ Q fl m' H') NoE s

theorem Tr.s {env : Env} {H H' : AH} {s s' : Shared} (x : Tr H s H' s') : TrS env H s H' s' := ⟨fun a o h _ _ e => x.keep a o h e, fun a o h e => ⟨o, x.keep a o h e⟩, x.dom, x.os⟩

theorem TrS.trans {env : Env} {H H₁ H₂ : AH} {s s₁ s₂ : Shared} (x : TrS env H s H₁ s₁) (y : TrS env H₁ s₁ H₂ s₂) : TrS env H s H₂ s₂ :=
  ⟨fun a o h h1 h2 e => y.keep a o (x.dom a o h e) h1 h2 (x.keep a o h h1 h2 e), fun a o h e => let ⟨o', e'⟩ := x.live a o h e; y.live a o' (x.dom a o h e) e',
    fun a o h e => let ⟨o', e'⟩ := x.live a o h e; y.dom a o' (x.dom a o h e) e', y.os.trans x.os⟩

noncomputable def upd (H : AH) (a : Addr) (o : AO) : AH := fun x => if x = a then some o else H x
theorem upd_self (H : AH) (a : Addr) (o : AO) : upd H a o a = some o := by simp [upd]
theorem upd_ne {H : AH} {a x : Addr} {o : AO} (h : x ≠ a) : upd H a o x = H x := by simp [upd, h]

section
variable {c : Cx} {H H' : AH} {s : Shared} {h' : Heap} {tk : Nat}
theorem GH.none_of_new (G : GH c H s) {a : Addr} (h : s.heap.get? a = none) : H a = none := by
  cases hq : H a with
  | none => rfl
  | some o => obtain ⟨ob, e, _⟩ := (G.objs a o hq).1.there; rw [h] at e; cases e
theorem GH.base_none (G : GH c H s) {a : Addr} (h : s.heap.get? a = none) : c.b.get? a = none := by
  cases hq : c.b.get? a with
  | none => rfl
  | some o => rw [G.keep a o hq] at h; cases h
theorem get_size (h : Heap) : h.get? h.objs.size = none := by
  cases hq : h.get? h.objs.size with
  | none => rfl
  | some o => exact absurd (Heap.lt_size hq) (Nat.lt_irrefl _)
theorem GH.ext (G : GH c H s) (k : ∀ a o, s.heap.get? a = some o → h'.get? a = some o) : GH c H { s with heap := h', toks := tk } :=
  ⟨fun a o e => ⟨(G.objs a o e).1.kept (fun a o _ _ e => k a o e) (k a), (G.objs a o e).2⟩, fun a o e => k a o (G.keep a o e), G.bare⟩
theorem Tr.ext (k : ∀ a o, s.heap.get? a = some o → h'.get? a = some o) : Tr H s H { s with heap := h', toks := tk } := ⟨fun a o _ e => k a o e, fun _ _ h _ => h, rfl⟩
theorem GH.alloc (G : GH c H s) (k : ∀ a o, s.heap.get? a = some o → h'.get? a = some o) {a : Addr} {o : AO} (hn : s.heap.get? a = none) (ho : OR c.b h' a o) : GH c (upd H a o) { s with heap := h', toks := tk } := by
  refine ⟨fun x ox e => ?_, fun a o e => k a o (G.keep a o e), G.bare⟩
  by_cases hx : x = a
  · subst hx; rw [upd_self] at e; cases e; exact ⟨ho, G.base_none hn⟩
  · rw [upd_ne hx] at e; exact ⟨(G.objs x ox e).1.kept (fun a o _ _ e => k a o e) (k x), (G.objs x ox e).2⟩
theorem Tr.alloc (k : ∀ a o, s.heap.get? a = some o → h'.get? a = some o) {a : Addr} {o : AO} (hn : s.heap.get? a = none) : Tr H s (upd H a o) { s with heap := h', toks := tk } :=
  ⟨fun a o _ e => k a o e, fun x ox h e => by rw [upd_ne (by rintro rfl; rw [hn] at e; cases e)]; exact h, rfl⟩
theorem push_keeps (h : Heap) (o : Obj) : ∀ a ob, h.get? a = some ob → (h.push o).get? a = some ob := fun _ _ e => Heap.get?_push_of_some _ e

/-- a change of one object -/
theorem GH.set (G : GH c H s) {a : Addr} {o o' : AO} (ha : H a = some o) (k : ∀ b ob, b ≠ a → s.heap.get? b = some ob → h'.get? b = some ob) (ho : OR c.b h' a o') : GH c (upd H a o') { s with heap := h', toks := tk } := by
  have A := G.objs a o ha
  have tk' : TupKept s.heap h' := fun b ob hc _ e => k b ob (by
    rintro rfl
    obtain ⟨ob', e', n, _⟩ := A.1.there
    rw [e] at e'; cases e'; exact n hc) e
  refine ⟨fun x ox e => ?_, fun b ob e => k b ob (by rintro rfl; rw [A.2] at e; cases e) (G.keep b ob e), G.bare⟩
  by_cases hx : x = a
  · subst hx; rw [upd_self] at e; cases e; exact ⟨ho, A.2⟩
  · rw [upd_ne hx] at e; exact ⟨(G.objs x ox e).1.kept tk' (fun ob => k x ob hx), (G.objs x ox e).2⟩
theorem Tr.set {a : Addr} {o o' : AO} (ha : H a = some o) (k : ∀ b ob, b ≠ a → s.heap.get? b = some ob → h'.get? b = some ob) : Tr H s (upd H a o') { s with heap := h', toks := tk } := by
  have hne : ∀ x, H x = none → x ≠ a := fun x h => by rintro rfl; rw [ha] at h; cases h
  exact ⟨fun x ox h e => k x ox (hne x h) e, fun x ox h _ => by rw [upd_ne (hne x h)]; exact h, rfl⟩
end
end Mine
namespace Mine
open PySem

section
variable {c : Cx} {A : Around} {env : Env} {m : LM} {H : AH} {Q : AV → AH → Prop}

theorem EOk.mono {e : Expr} {Q' : AV → AH → Prop} (h : EOk c A env e m H Q) (k : ∀ v H, Q v H → Q' v H) : EOk c A env e m H Q' :=
  fun s G F => wpAny_mono (h s G F) (fun _ _ ⟨av, H', a, b, d, e⟩ => ⟨av, H', a, b, d, k _ _ e⟩) fun _ _ x => x
theorem TOk.mono {e : Expr} {Q Q' : Bool → AH → Prop} (h : TOk c A env e m H Q) (k : ∀ v H, Q v H → Q' v H) : TOk c A env e m H Q' :=
  fun s G F => wpAny_mono (h s G F) (fun _ _ ⟨H', b, d, e⟩ => ⟨H', b, d, k _ _ e⟩) fun _ _ x => x

theorem eok_int {i : Int} {k : Nat} {pos : Pos} (h : Q (.int i) H) : EOk c A env (.Constant (.int i) k pos) m H Q :=
  fun _ G _ => wpAny_Constant_int ⟨.int i, H, by simp [VR], ⟨G.objs, G.keep, G.bare⟩, ⟨fun _ _ _ e => e, fun _ _ h _ => h, rfl⟩, h⟩
theorem eok_none {k : Nat} {pos : Pos} (h : Q .none H) : EOk c A env (.Constant .none k pos) m H Q :=
  fun s G _ => wpAny_Constant_none ⟨.none, H, by simp [VR], G, .refl H s, h⟩
theorem eok_bool {b : Bool} {k : Nat} {pos : Pos} (h : Q (.bool b) H) : EOk c A env (.Constant (.bool b) k pos) m H Q :=
  fun s G _ => wpAny_Constant_bool ⟨.bool b, H, by simp [VR], G, .refl H s, h⟩

theorem eok_name {x : Str} {pos : Pos} {v : AV} (hm : m x = some v) (h : Q v H) (hk : env.scope.kind = .function := by rfl) (hd : (x == ("__debug__" : Str)) = false := by decide)
    (hc : (x == ("__classdict__" : Str)) = false := by decide) : EOk c A env (.Name x pos) m H Q := by
  intro s G F
  obtain ⟨mr, hn, hv⟩ := F.ns
  refine wpAny_Name ?_ hd
  rcases hv x v hm with ⟨h1, rv, h2, h3⟩ | ⟨h1 | h1, cc, rv, h2, h4, h5⟩
  · exact wpAny_loadName_local hk h1 hn h2 ⟨v, H, h3, G, .refl H s, h⟩
  · exact wpAny_loadName_cell hk h1 h2 h4 ⟨v, H, h5, G, .refl H s, h⟩
  · exact wpAny_loadName_free hk h1 h2 h4 ⟨v, H, h5, G, .refl H s, h⟩ hc

/-- one after the other -/
theorem bind2 {α : Type} {t : Sem α} {s : Shared} {P : α → Shared → Prop} {R : α → Shared → Prop} (h : wpAny (model c.prog c.w) A t P NoE s) (k : ∀ v s₁, P v s₁ → R v s₁) : wpAny (model c.prog c.w) A t R NoE s :=
  wpAny_mono h k fun _ _ x => x

noncomputable def BinOk (c : Cx) (A : Around) (op : Operator) (a b : AV) (H : AH) (Q : AV → AH → Prop) : Prop :=
  ∀ s ra rb, GH c H s → VR c.b s.heap a ra → VR c.b s.heap b rb → wpAny (model c.prog c.w) A (binaryOp op ra rb) (Ends c H s Q) NoE s
noncomputable def CmpOk (c : Cx) (A : Around) (op : CmpOp) (a b : AV) (H : AH) (Q : AV → AH → Prop) : Prop :=
  ∀ s ra rb, GH c H s → VR c.b s.heap a ra → VR c.b s.heap b rb → wpAny (model c.prog c.w) A (compareOp op ra rb) (Ends c H s Q) NoE s

theorem Ends.after {H₁ : AH} {s s₁ : Shared} (x : Tr H s H₁ s₁) {v : Value} {s₂ : Shared} (e : Ends c H₁ s₁ Q v s₂) : Ends c H s Q v s₂ :=
  let ⟨av, H', a, b, d, e⟩ := e; ⟨av, H', a, b, x.trans d, e⟩

theorem eok_binop {l r : Expr} {op : Operator} {pos : Pos} (h : EOk c A env l m H fun a H₁ => EOk c A env r m H₁ fun b H₂ => BinOk c A op a b H₂ Q) : EOk c A env (.BinOp l op r pos) m H Q := by
  intro s G F
  refine wpAny_BinOp (bind2 (h s G F) fun va s₁ hh => ?_)
  obtain ⟨a, H₁, r₁, G₁, t₁, h₁⟩ := hh
  refine bind2 (h₁ s₁ G₁ (F.tr G t₁)) fun vb s₂ hh => ?_
  obtain ⟨b, H₂, r₂, G₂, t₂, h₂⟩ := hh
  exact bind2 (h₂ s₂ va vb G₂ (r₁.kept (t₂.tup G₁)) r₂) fun v s₃ e => .after (t₁.trans t₂) e

theorem eok_cmp {l r : Expr} {op : CmpOp} {pos : Pos} (h : EOk c A env l m H fun a H₁ => EOk c A env r m H₁ fun b H₂ => CmpOk c A op a b H₂ Q)
    (hm : behindInMarks op r = false := by with_unfolding_all rfl) : EOk c A env (.Compare l [op] [r] pos) m H Q := by
  intro s G F
  refine wpAny_Compare1 (bind2 (h s G F) fun va s₁ hh => ?_) hm
  obtain ⟨a, H₁, r₁, G₁, t₁, h₁⟩ := hh
  refine bind2 (h₁ s₁ G₁ (F.tr G t₁)) fun vb s₂ hh => ?_
  obtain ⟨b, H₂, r₂, G₂, t₂, h₂⟩ := hh
  exact bind2 (h₂ s₂ va vb G₂ (r₁.kept (t₂.tup G₁)) r₂) fun v s₃ e => .after (t₁.trans t₂) e

/-- a value that is a bool -/
noncomputable abbrev IsB (Q : Bool → AH → Prop) : AV → AH → Prop := fun v H => ∃ b, v = .bool b ∧ Q b H

theorem truthy_of {Q : Bool → AH → Prop} {s s₁ : Shared} {v : Value} (e : Ends c H s (IsB Q) v s₁) : wpAny (model c.prog c.w) A (truthy v) (fun b s' => ∃ H', GH c H' s' ∧ Tr H s H' s' ∧ Q b H') NoE s₁ := by
  obtain ⟨av, H', r, G, t, b, rfl, q⟩ := e
  simp only [VR] at r
  subst r
  exact wpAny_truthy_bool ⟨H', G, t, q⟩

theorem tok_cmp {l r : Expr} {op : CmpOp} {pos : Pos} {Q : Bool → AH → Prop} (h : EOk c A env l m H fun a H₁ => EOk c A env r m H₁ fun b H₂ => CmpOk c A op a b H₂ (IsB Q))
    (hm : behindInMarks op r = false := by with_unfolding_all rfl) : TOk c A env (.Compare l [op] [r] pos) m H Q := by
  intro s G F
  refine wpAny_isTrue_Compare1 (bind2 (h s G F) fun va s₁ hh => ?_) hm
  obtain ⟨a, H₁, r₁, G₁, t₁, h₁⟩ := hh
  refine bind2 (h₁ s₁ G₁ (F.tr G t₁)) fun vb s₂ hh => ?_
  obtain ⟨b, H₂, r₂, G₂, t₂, h₂⟩ := hh
  exact bind2 (h₂ s₂ va vb G₂ (r₁.kept (t₂.tup G₁)) r₂) fun v s₃ e => truthy_of (.after (t₁.trans t₂) e)

theorem tok_value {e : Expr} {Q : Bool → AH → Prop} (h : EOk c A env e m H (IsB Q)) (he : ∀ whole, isTrue e env whole = (do let v ← whole; standAt e.pos; holding [v] (truthy v)) := by intro _; rfl) : TOk c A env e m H Q := by
  intro s G F
  exact wpAny_isTrue_value (bind2 (h s G F) fun v s₁ e => truthy_of e) (he _)

theorem tok_not {e : Expr} {pos : Pos} {Q : Bool → AH → Prop} (h : TOk c A env e m H fun b H' => Q (!b) H') : TOk c A env (.UnaryOp .Not e pos) m H Q :=
  fun s G F => wpAny_isTrue_Not (h s G F)

noncomputable def AllOk (c : Cx) (A : Around) (env : Env) (op : BoolOp) (es : List Expr) (m : LM) (H : AH) (Q : Bool → AH → Prop) : Prop :=
  ∀ s, GH c H s → GF c env m H s → wpAny (model c.prog c.w) A (allTrue op es env) (fun b s' => ∃ H', GH c H' s' ∧ Tr H s H' s' ∧ Q b H') NoE s
theorem tok_boolop {op : BoolOp} {es : List Expr} {pos : Pos} {Q : Bool → AH → Prop} (h : AllOk c A env op es m H Q) : TOk c A env (.BoolOp op es pos) m H Q :=
  fun s G F => wpAny_isTrue_BoolOp (h s G F)
theorem all_and_nil {Q : Bool → AH → Prop} (h : Q true H) : AllOk c A env .And [] m H Q := fun s G _ => wpAny_allTrue_And_nil ⟨H, G, .refl H s, h⟩
theorem all_or_nil {Q : Bool → AH → Prop} (h : Q false H) : AllOk c A env .Or [] m H Q := fun s G _ => wpAny_allTrue_Or_nil ⟨H, G, .refl H s, h⟩
theorem all_and_cons {e : Expr} {es : List Expr} {Q : Bool → AH → Prop} (h : TOk c A env e m H fun b H₁ => if b then AllOk c A env .And es m H₁ Q else Q false H₁) : AllOk c A env .And (e :: es) m H Q := by
  intro s G F
  refine wpAny_allTrue_And_cons (bind2 (h s G F) fun b s₁ ⟨H₁, G₁, t₁, h₁⟩ => ?_)
  cases b with
  | false => exact ⟨H₁, G₁, t₁, by simpa using h₁⟩
  | true =>
    simp only [if_true] at h₁ ⊢
    exact bind2 (h₁ s₁ G₁ (F.tr G t₁)) fun b s₂ ⟨H₂, G₂, t₂, h₂⟩ => ⟨H₂, G₂, t₁.trans t₂, h₂⟩
theorem all_or_cons {e : Expr} {es : List Expr} {Q : Bool → AH → Prop} (h : TOk c A env e m H fun b H₁ => if b then Q true H₁ else AllOk c A env .Or es m H₁ Q) : AllOk c A env .Or (e :: es) m H Q := by
  intro s G F
  refine wpAny_allTrue_Or_cons (bind2 (h s G F) fun b s₁ ⟨H₁, G₁, t₁, h₁⟩ => ?_)
  cases b with
  | true => exact ⟨H₁, G₁, t₁, by simpa using h₁⟩
  | false =>
    simp only [Bool.false_eq_true, if_false] at h₁ ⊢
    exact bind2 (h₁ s₁ G₁ (F.tr G t₁)) fun b s₂ ⟨H₂, G₂, t₂, h₂⟩ => ⟨H₂, G₂, t₁.trans t₂, h₂⟩

theorem eok_and2 {x y : Expr} {pos : Pos} (h : EOk c A env x m H fun v H₁ => ∃ b, v = .bool b ∧ if b then EOk c A env y m H₁ Q else Q (.bool false) H₁) : EOk c A env (.BoolOp .And [x, y] pos) m H Q := by
  intro s G F
  refine wpAny_And2 (bind2 (h s G F) fun v s₁ hh => ?_)
  obtain ⟨av, H₁, r₁, G₁, t₁, b, e, h₁⟩ := hh
  subst e
  simp only [VR] at r₁
  subst r₁
  refine wpAny_truthy_bool ?_
  cases b with
  | false => exact ⟨.bool false, H₁, by simp [VR], G₁, t₁, by simpa using h₁⟩
  | true =>
    simp only [if_true] at h₁ ⊢
    exact bind2 (h₁ s₁ G₁ (F.tr G t₁)) fun b s₂ e => .after t₁ e
theorem eok_or2 {x y : Expr} {pos : Pos} (h : EOk c A env x m H fun v H₁ => ∃ b, v = .bool b ∧ if b then Q (.bool true) H₁ else EOk c A env y m H₁ Q) : EOk c A env (.BoolOp .Or [x, y] pos) m H Q := by
  intro s G F
  refine wpAny_Or2 (bind2 (h s G F) fun v s₁ hh => ?_)
  obtain ⟨av, H₁, r₁, G₁, t₁, b, e, h₁⟩ := hh
  subst e
  simp only [VR] at r₁
  subst r₁
  refine wpAny_truthy_bool ?_
  cases b with
  | true => exact ⟨.bool true, H₁, by simp [VR], G₁, t₁, by simpa using h₁⟩
  | false =>
    simp only [Bool.false_eq_true, if_false] at h₁ ⊢
    exact bind2 (h₁ s₁ G₁ (F.tr G t₁)) fun b s₂ e => .after t₁ e

theorem eok_not {e : Expr} {pos : Pos} (h : EOk c A env e m H fun v H₁ => ∃ b, v = .bool b ∧ Q (.bool (!b)) H₁) : EOk c A env (.UnaryOp .Not e pos) m H Q := by
  intro s G F
  refine wpAny_UnaryOp (bind2 (h s G F) fun v s₁ hh => ?_)
  obtain ⟨av, H₁, r₁, G₁, t₁, b, e, h₁⟩ := hh
  subst e
  simp only [VR] at r₁
  subst r₁
  exact not_value (wpAny_truthy_bool ⟨.bool (!b), H₁, by simp [VR], G₁, t₁, h₁⟩)
theorem eok_neg {e : Expr} {pos : Pos} (h : EOk c A env e m H fun v H₁ => ∃ i, v = .int i ∧ Q (.int (-i)) H₁) : EOk c A env (.UnaryOp .USub e pos) m H Q := by
  intro s G F
  refine wpAny_UnaryOp (bind2 (h s G F) fun v s₁ hh => ?_)
  obtain ⟨av, H₁, r₁, G₁, t₁, i, e, h₁⟩ := hh
  subst e
  simp only [VR] at r₁
  obtain ⟨t, rfl⟩ := r₁
  exact PySem.P.neg_int ⟨.int (-i), H₁, by simp [VR], ⟨G₁.objs, G₁.keep, G₁.bare⟩, ⟨t₁.keep, t₁.dom, t₁.os⟩, h₁⟩

/-- ints -/
theorem ends_int {s : Shared} {i : Int} (G : GH c H s) (h : Q (.int i) H) : Ends c H s Q (.int i s.toks) { s with toks := s.toks + 1 } :=
  ⟨.int i, H, by simp [VR], ⟨G.objs, G.keep, G.bare⟩, ⟨fun _ _ _ e => e, fun _ _ h _ => h, rfl⟩, h⟩
theorem ends_bool {s : Shared} {b : Bool} (G : GH c H s) (h : Q (.bool b) H) : Ends c H s Q (.bool b) s := ⟨.bool b, H, by simp [VR], G, .refl H s, h⟩
theorem ints_of {s : Shared} {a : Int} {ra : Value} (h : VR c.b s.heap (.int a) ra) : ∃ t, ra = .int a t := by simpa [VR] using h

theorem bin_add {a b : Int} (h : Q (.int (a + b)) H) : BinOk c A .Add (.int a) (.int b) H Q := fun _ _ _ G x y => by
  obtain ⟨_, rfl⟩ := ints_of x; obtain ⟨_, rfl⟩ := ints_of y; exact P.add_int (ends_int G h)
theorem bin_sub {a b : Int} (h : Q (.int (a - b)) H) : BinOk c A .Sub (.int a) (.int b) H Q := fun _ _ _ G x y => by
  obtain ⟨_, rfl⟩ := ints_of x; obtain ⟨_, rfl⟩ := ints_of y; exact P.sub_int (ends_int G h)
theorem bin_mul {a b : Int} (hm : IntMulOk a b) (h : Q (.int (a * b)) H) : BinOk c A .Mult (.int a) (.int b) H Q := fun _ _ _ G x y => by
  obtain ⟨_, rfl⟩ := ints_of x; obtain ⟨_, rfl⟩ := ints_of y; exact P.mul_int (ends_int G h) hm
theorem cmp_eq {a b : Int} (h : Q (.bool (a == b)) H) : CmpOk c A .Eq (.int a) (.int b) H Q := fun _ _ _ G x y => by
  obtain ⟨_, rfl⟩ := ints_of x; obtain ⟨_, rfl⟩ := ints_of y; exact P.eq_int (ends_bool G h)
theorem cmp_ne {a b : Int} (h : Q (.bool (a != b)) H) : CmpOk c A .NotEq (.int a) (.int b) H Q := fun _ _ _ G x y => by
  obtain ⟨_, rfl⟩ := ints_of x; obtain ⟨_, rfl⟩ := ints_of y; exact P.ne_int (ends_bool G h)
theorem cmp_lt {a b : Int} (h : Q (.bool (decide (a < b))) H) : CmpOk c A .Lt (.int a) (.int b) H Q := fun _ _ _ G x y => by
  obtain ⟨_, rfl⟩ := ints_of x; obtain ⟨_, rfl⟩ := ints_of y; exact P.lt_int (ends_bool G h)
theorem cmp_le {a b : Int} (h : Q (.bool (decide (a ≤ b))) H) : CmpOk c A .LtE (.int a) (.int b) H Q := fun _ _ _ G x y => by
  obtain ⟨_, rfl⟩ := ints_of x; obtain ⟨_, rfl⟩ := ints_of y; exact P.le_int (ends_bool G h)
theorem cmp_gt {a b : Int} (h : Q (.bool (decide (a > b))) H) : CmpOk c A .Gt (.int a) (.int b) H Q := fun _ _ _ G x y => by
  obtain ⟨_, rfl⟩ := ints_of x; obtain ⟨_, rfl⟩ := ints_of y; exact P.gt_int (ends_bool G h)
theorem cmp_ge {a b : Int} (h : Q (.bool (decide (a ≥ b))) H) : CmpOk c A .GtE (.int a) (.int b) H Q := fun _ _ _ G x y => by
  obtain ⟨_, rfl⟩ := ints_of x; obtain ⟨_, rfl⟩ := ints_of y; exact P.ge_int (ends_bool G h)

noncomputable def isNone : AV → Bool
  | .none => true
  | _ => false
theorem isNone_val {b h : Heap} {x : AV} {v : Value} (e : VR b h x v) : (v == Value.none) = isNone x := by
  cases x <;> simp only [VR] at e
  · subst e; rfl
  · subst e; rfl
  · obtain ⟨_, rfl⟩ := e; rfl
  · subst e; rfl
  · subst e; rfl
  · obtain ⟨_, _, rfl, _⟩ := e; rfl
  · obtain ⟨_, _, _, _, _, rfl, _⟩ := e; rfl
  · obtain ⟨_, _, rfl, _⟩ := e; rfl
theorem cmp_is_none {a : AV} (h : Q (.bool (isNone a)) H) : CmpOk c A .Is a .none H Q := fun s ra rb G x y => by
  simp only [VR] at y
  subst y
  refine is_none ?_
  rw [isNone_val x]; exact ends_bool G h
theorem cmp_isNot_none {a : AV} (h : Q (.bool (!isNone a)) H) : CmpOk c A .IsNot a .none H Q := fun s ra rb G x y => by
  simp only [VR] at y
  subst y
  refine isNot_none ?_
  rw [isNone_val x]; exact ends_bool G h
theorem cmp_is_ref {a : Addr} (h : Q (.bool true) H) : CmpOk c A .Is (.ref a) (.ref a) H Q := fun s ra rb G x y => by
  simp only [VR] at x y
  subst x y
  exact wpAny_is_ref_self (ends_bool G h)
theorem cmp_is_typ {a b : String} (h : Q (.bool (a == b)) H) (hp : plainIs (.type a) (.type b) = true := by rfl) : CmpOk c A .Is (.typ a) (.typ b) H Q := fun s ra rb G x y => by
  simp only [VR] at x y
  subst x y
  refine wpAny_is_plain hp ?_
  have e : (Value.type a == Value.type b) = (a == b) := by
    rw [Bool.eq_iff_iff]; simp
  rw [e]; exact ends_bool G h

/-- items -/
theorem esok_nil {Q : List AV → AH → Prop} (h : Q [] H) : EsOk c A env [] m H Q := fun s _ G _ => wpAny_items_nil ⟨[], H, by simp [VRs], G, .refl H s, h⟩
theorem esok_cons {e : Expr} {es : List Expr} {Q : List AV → AH → Prop} (h : EOk c A env e m H fun v H₁ => EsOk c A env es m H₁ fun vs H₂ => Q (v :: vs) H₂)
    (he : starEach (e :: es) env = (false, eval e env) :: starEach es env := by rfl) : EsOk c A env (e :: es) m H Q := by
  intro s pos G F
  refine wpAny_items_cons (bind2 (h s G F) fun v s₁ hh => ?_) he
  obtain ⟨av, H₁, r₁, G₁, t₁, h₁⟩ := hh
  exact bind2 (h₁ s₁ pos G₁ (F.tr G t₁)) fun vs s₂ ⟨avs, H₂, r₂, G₂, t₂, h₂⟩ => ⟨av :: avs, H₂, by simp only [VRs]; exact ⟨v, vs, rfl, r₁.kept (t₂.tup G₁), r₂⟩, G₂, t₁.trans t₂, h₂⟩

theorem eok_tuple {es : List Expr} {k : Nat} {pos : Pos} (h : EsOk c A env es m H fun vs H₁ => vs.length ≤ sizeLine ∧ Q (.tup vs) H₁) : EOk c A env (.Tuple es k pos) m H Q := by
  intro s G F
  refine wpAny_Tuple (bind2 (h s pos G F) fun vs s₁ ⟨avs, H₁, r₁, G₁, t₁, hl, h₁⟩ => ⟨by rw [r₁.length]; exact hl, ?_⟩)
  have k := push_keeps s₁.heap { cls := .type "tuple", data := .seq vs.toArray }
  refine ⟨.tup avs, H₁, ?_, G₁.ext (tk := s₁.toks) k, t₁.trans (.ext (tk := s₁.toks) k), h₁⟩
  simp only [VR]
  exact ⟨_, vs, rfl, ⟨_, Heap.get?_push_size _ rfl, rfl, _, rfl⟩, r₁.kept fun a o _ _ e => k a o e⟩

theorem Ends.newList {s s₁ : Shared} {xs : List AV} {vs : List Value} {tk : Nat} {H₁ : AH} (G₁ : GH c H₁ s₁) (t₁ : Tr H s H₁ s₁) (r : VRs c.b s₁.heap xs vs) (h : ∀ a, H₁ a = none → Q (.ref a) (upd H₁ a (.lst xs))) :
    Ends c H s Q (.ref s₁.heap.objs.size) { s₁ with heap := s₁.heap.push { cls := .type "list", data := .seq vs.toArray }, toks := tk } := by
  have k := push_keeps s₁.heap { cls := .type "list", data := .seq vs.toArray }
  refine ⟨.ref s₁.heap.objs.size, upd H₁ s₁.heap.objs.size (.lst xs), by simp [VR], G₁.alloc k (get_size _) ⟨vs, ⟨0, Heap.get?_push_size _ rfl⟩, r.kept fun a o _ _ e => k a o e⟩, t₁.trans (.alloc k (get_size _)), h _ (G₁.none_of_new (get_size _))⟩

theorem eok_list {es : List Expr} {pos : Pos} (h : EsOk c A env es m H fun vs H₁ => vs.length ≤ sizeLine ∧ ∀ a, H₁ a = none → Q (.ref a) (upd H₁ a (.lst vs))) : EOk c A env (.List es pos) m H Q := by
  intro s G F
  refine wpAny_List (bind2 (h s pos G F) fun vs s₁ ⟨avs, H₁, r₁, G₁, t₁, hl, h₁⟩ => ⟨by rw [r₁.length]; exact hl, ?_⟩)
  exact Ends.newList (tk := s₁.toks) G₁ t₁ r₁ h₁

/-- lists read -/
theorem GH.lst {s : Shared} (G : GH c H s) {a : Addr} {xs : List AV} (h : H a = some (.lst xs)) : ∃ vs, s.heap.PlainList a vs.toArray ∧ VRs c.b s.heap xs vs := (G.objs a _ h).1

theorem bin_add_list {a b : Addr} {xs ys : List AV} (ha : H a = some (.lst xs)) (hb : H b = some (.lst ys)) (hsz : xs.length + ys.length ≤ sizeLine) (h : ∀ r, H r = none → Q (.ref r) (upd H r (.lst (xs ++ ys)))) :
    BinOk c A .Add (.ref a) (.ref b) H Q := fun s ra rb G x y => by
  simp only [VR] at x y
  subst x y
  obtain ⟨vs, ⟨n, p1⟩, r1⟩ := G.lst ha
  obtain ⟨ws, ⟨n', p2⟩, r2⟩ := G.lst hb
  refine P.add_list (n := n) (n2 := n') p1 p2 ?_ (by simp [r1.length, r2.length]; exact hsz)
  have e : vs.toArray ++ ws.toArray = (vs ++ ws).toArray := by simp
  rw [e]
  exact Ends.newList (tk := s.toks) G (.refl H s) (r1.append r2) h

/-- o[i], o evaluated first -/
theorem eok_item_lst {o i : Expr} {pos : Pos} (h : EOk c A env o m H fun v H₁ => EOk c A env i m H₁ fun w H₂ => ∃ a xs k x, v = .ref a ∧ w = .int k ∧ H₂ a = some (.lst xs) ∧ 0 ≤ k ∧ k < 2 ^ 63 ∧ xs[k.toNat]? = some x ∧ Q x H₂)
    (hs : ∀ l k u, subscripted i false (.ref l) (.int k u) = operate [.ref l, .int k u] (getItem (.ref l) (.int k u)) := by intro _ _ _; with_unfolding_all rfl) : EOk c A env (.Subscript o i pos) m H Q := by
  intro s G F
  refine PyProof.Rows.Subscript_ (bind2 (h s G F) fun va s₁ hh => ?_)
  obtain ⟨a, H₁, r₁, G₁, t₁, h₁⟩ := hh
  refine bind2 (h₁ s₁ G₁ (F.tr G t₁)) fun vb s₂ hh => ?_
  obtain ⟨b, H₂, r₂, G₂, t₂, l, xs, k, x, e1, e2, hl, h0, hhi, hx, hq⟩ := hh
  subst e1 e2
  simp only [VR] at r₁ r₂
  subst r₁
  obtain ⟨u, rfl⟩ := r₂
  obtain ⟨vs, p, r⟩ := G₂.lst hl
  obtain ⟨rv, hv, hr⟩ := r.get hx
  exact PyProof.Rows.tail_any p.isList.typeIs slot_list_getitem.lookup (wpAny_getItem_list p.isList h0 hhi (by simpa using hv) ⟨x, H₂, hr, G₂, t₁.trans t₂, hq⟩) (hs l k u)

theorem eok_item_tup {o i : Expr} {pos : Pos} (h : EOk c A env o m H fun v H₁ => EOk c A env i m H₁ fun w H₂ => ∃ xs k x, v = .tup xs ∧ w = .int k ∧ 0 ≤ k ∧ k < 2 ^ 63 ∧ xs[k.toNat]? = some x ∧ Q x H₂)
    (hs : ∀ l k u, subscripted i false (.ref l) (.int k u) = operate [.ref l, .int k u] (getItem (.ref l) (.int k u)) := by intro _ _ _; with_unfolding_all rfl) : EOk c A env (.Subscript o i pos) m H Q := by
  intro s G F
  refine PyProof.Rows.Subscript_ (bind2 (h s G F) fun va s₁ hh => ?_)
  obtain ⟨a, H₁, r₁, G₁, t₁, h₁⟩ := hh
  refine bind2 (h₁ s₁ G₁ (F.tr G t₁)) fun vb s₂ hh => ?_
  obtain ⟨b, H₂, r₂, G₂, t₂, xs, k, x, e1, e2, h0, hhi, hx, hq⟩ := hh
  subst e1 e2
  replace r₁ := r₁.kept (t₂.tup G₁)
  simp only [VR] at r₁ r₂
  obtain ⟨l, vs, rfl, p, r⟩ := r₁
  obtain ⟨u, rfl⟩ := r₂
  obtain ⟨rv, hv, hr⟩ := r.get hx
  have hlt : k.toNat < vs.length := (List.getElem?_eq_some_iff.mp hv).1
  refine PyProof.Rows.item_tupleT (j := k.toNat) p (by omega) hhi ?_ hv ⟨x, H₂, hr, G₂, t₁.trans t₂, hq⟩ (hs l k u)
  unfold seqIndex?
  simp only [show ¬ k < 0 by omega, if_false]
  rw [if_pos (by simp; omega)]

theorem eok_item_fro {o i : Expr} {pos : Pos} (h : EOk c A env o m H fun v H₁ => EOk c A env i m H₁ fun w H₂ => ∃ ns k x, v = .fro ns ∧ w = .int k ∧ 0 ≤ k ∧ k < 2 ^ 63 ∧ ns[k.toNat]? = some x ∧ Q (.int x) H₂)
    (hs : ∀ l k u, subscripted i false (.ref l) (.int k u) = operate [.ref l, .int k u] (getItem (.ref l) (.int k u)) := by intro _ _ _; with_unfolding_all rfl) : EOk c A env (.Subscript o i pos) m H Q := by
  intro s G F
  refine PyProof.Rows.Subscript_ (bind2 (h s G F) fun va s₁ hh => ?_)
  obtain ⟨a, H₁, r₁, G₁, t₁, h₁⟩ := hh
  refine bind2 (h₁ s₁ G₁ (F.tr G t₁)) fun vb s₂ hh => ?_
  obtain ⟨b, H₂, r₂, G₂, t₂, ns, k, x, e1, e2, h0, hhi, hx, hq⟩ := hh
  subst e1 e2
  simp only [VR] at r₁ r₂
  obtain ⟨l, vs, rfl, p, ts, hts, rfl⟩ := r₁
  obtain ⟨u, rfl⟩ := r₂
  have p' : s₂.heap.IsList l (List.zipWith Value.int ns ts).toArray := p.at fun o e => G₂.keep _ _ e
  have hlt : k.toNat < ns.length := (List.getElem?_eq_some_iff.mp hx).1
  refine PyProof.Rows.tail_any p'.typeIs slot_list_getitem.lookup (wpAny_getItem_list (x := .int x (ts[k.toNat]'(by omega))) p' h0 hhi ?_ ⟨.int x, H₂, by simp [VR], G₂, t₁.trans t₂, hq⟩) (hs l k u)
  have hx' : ns[k.toNat] = x := by simpa [hlt] using hx
  simp [hts, hlt, hx']
end
end Mine
namespace Mine
open PySem PyProof.Rows

noncomputable def updM (m : LM) (x : Str) (v : AV) : LM := fun y => if y = x then some v else m y

section
variable {c : Cx} {A : Around} {env : Env} {m : LM} {H : AH}

/-- what a storing of a name leaves -/
theorem store_ok {x : Str} {v : AV} {rv : Value} {s : Shared} {Q : Unit → Shared → Prop} (G : GH c H s) (F : GF c env m H s) (r : VR c.b s.heap v rv)
    (hk : env.scope.kind = .function) (hx : env.kindOf x = some .local ∨ (env.kindOf x = some .cell ∧ ∃ cc, env.cells.lookup x = some cc ∧ ∀ y, y ≠ x → env.cells.lookup y ≠ some cc))
    (h : ∀ h' tk, GH c H { s with heap := h', toks := tk } → GF c env (updM m x v) H { s with heap := h', toks := tk } → TrS env H s H { s with heap := h', toks := tk } → Q () { s with heap := h', toks := tk }) :
    wpAny (model c.prog c.w) A (storeName env x rv) Q NoE s := by
  obtain ⟨mr, hn, hv⟩ := F.ns
  rcases hx with hx | ⟨hx, cc, hcc, hinj⟩
  · refine wpAny_storeName_local hx hn (fun h' hn' hs => ?_) (by rw [hk]; rfl)
    obtain ⟨oL, es, ep, hoL, hdL, _⟩ := id hn
    have keepNe : ∀ a o, a ≠ env.locals → s.heap.get? a = some o → h'.get? a = some o := fun a o ne e => (hs.2 a ne).trans e
    have ndict : ∀ a o, (∀ es ep, o.data ≠ .dict es ep) → s.heap.get? a = some o → a ≠ env.locals := fun a o nd e => by
      rintro rfl; rw [hoL] at e; cases e; exact nd _ _ hdL
    have tk : TupKept s.heap h' := fun a o _ hd e => keepNe a o (ndict a o (by
      rcases hd with ⟨_, _, hd⟩ | ⟨_, hd⟩ <;> (intro _ _ q; rw [hd] at q; cases q)) e) e
    refine h h' (s.toks + 1) ⟨fun a o e => ⟨(G.objs a o e).1.kept tk fun ob => keepNe a ob (by rintro rfl; rw [F.own] at e; cases e), (G.objs a o e).2⟩,
      fun a o e => keepNe a o (by rintro rfl; rw [F.new] at e; cases e) (G.keep a o e), G.bare⟩ ?_ ⟨fun a o _ ne _ e => keepNe a o ne e, fun a o _ e => ?_, fun _ _ h _ => h, rfl⟩
    · refine ⟨F.own, F.new, fun y c' e => ?_, _, hn', fun y w e => ?_⟩
      · obtain ⟨h1, h2, v', oc, h3, h4⟩ := F.cells y c' e
        exact ⟨h1, h2, v', oc, keepNe _ _ (ndict _ _ (by intro _ _ q; rw [h4] at q; cases q) h3) h3, h4⟩
      · by_cases hy : y = x
        · subst hy
          simp only [updM, if_true, Option.some.injEq] at e
          subst e
          exact .inl ⟨hx, rv, by simp, r.kept tk⟩
        · simp only [updM, if_neg hy] at e
          rcases hv y w e with ⟨h1, rw', h2, h3⟩ | ⟨h1, c', rw', h2, ⟨oc, h4, h5⟩, h6⟩
          · exact .inl ⟨h1, rw', by simp [hy, h2], h3.kept tk⟩
          · exact .inr ⟨h1, c', rw', h2, ⟨oc, keepNe _ _ (ndict _ _ (by intro _ _ q; rw [h5] at q; cases q) h4) h4, h5⟩, h6.kept tk⟩
    · by_cases ha : a = env.locals
      · subst ha
        obtain ⟨o', _, _, h', _⟩ := hn'
        exact ⟨o', h'⟩
      · exact ⟨o, keepNe a o ha e⟩
  · obtain ⟨c1, c2, v₀, hcell⟩ := F.cells x cc hcc
    refine wpAny_storeName_cell hk hx hcc hcell fun h' hc' hs => ?_
    obtain ⟨oc₀, hoc₀, hdc₀⟩ := id hcell
    have keepNe : ∀ a o, a ≠ cc → s.heap.get? a = some o → h'.get? a = some o := fun a o ne e => (hs.2 a ne).trans e
    have ncell : ∀ a o, (∀ v, o.data ≠ .cell v) → s.heap.get? a = some o → a ≠ cc := fun a o nd e => by
      rintro rfl; rw [hoc₀] at e; cases e; exact nd _ hdc₀
    have tk : TupKept s.heap h' := fun a o _ hd e => keepNe a o (ncell a o (by
      rcases hd with ⟨_, _, hd⟩ | ⟨_, hd⟩ <;> (intro _ q; rw [hd] at q; cases q)) e) e
    obtain ⟨oL, es, ep, hoL, hdL, hrL⟩ := id hn
    refine h h' s.toks ⟨fun a o e => ⟨(G.objs a o e).1.kept tk fun ob => keepNe a ob (by rintro rfl; rw [c1] at e; cases e), (G.objs a o e).2⟩,
      fun a o e => keepNe a o (by rintro rfl; rw [c2] at e; cases e) (G.keep a o e), G.bare⟩ ?_ ⟨fun a o _ _ hc e => keepNe a o (by rintro rfl; exact hc x hcc) e, fun a o _ e => ?_, fun _ _ h _ => h, rfl⟩
    · refine ⟨F.own, F.new, fun y c' e => ?_, mr, ⟨oL, es, ep, keepNe _ _ (ncell _ _ (by intro _ q; rw [hdL] at q; cases q) hoL) hoL, hdL, hrL⟩, fun y w e => ?_⟩
      · obtain ⟨h1, h2, v', oc, h3, h4⟩ := F.cells y c' e
        by_cases hcc' : c' = cc
        · subst hcc'; exact ⟨h1, h2, _, hc'⟩
        · exact ⟨h1, h2, v', oc, keepNe _ _ hcc' h3, h4⟩
      · by_cases hy : y = x
        · subst hy
          simp only [updM, if_true, Option.some.injEq] at e
          subst e
          exact .inr ⟨.inl hx, cc, rv, hcc, hc', r.kept tk⟩
        · simp only [updM, if_neg hy] at e
          rcases hv y w e with ⟨h1, rw', h2, h3⟩ | ⟨h1, c', rw', h2, ⟨oc, h4, h5⟩, h6⟩
          · exact .inl ⟨h1, rw', h2, h3.kept tk⟩
          · exact .inr ⟨h1, c', rw', h2, ⟨oc, keepNe _ _ (by rintro rfl; exact hinj y hy h2) h4, h5⟩, h6.kept tk⟩
    · by_cases ha : a = cc
      · subst ha
        obtain ⟨o', h', _⟩ := hc'
        exact ⟨o', h'⟩
      · exact ⟨o, keepNe a o ha e⟩

/-- a name that may be stored -/
noncomputable def Stores (env : Env) (x : Str) : Prop := env.kindOf x = some .local ∨ (env.kindOf x = some .cell ∧ ∃ cc, env.cells.lookup x = some cc ∧ ∀ y, y ≠ x → env.cells.lookup y ≠ some cc)

theorem SOk.mono {t : Sem Flow} {Q Q' : AFl → LM → AH → Prop} (h : SOk c A env t m H Q) (k : ∀ f m H, Q f m H → Q' f m H) : SOk c A env t m H Q' :=
  fun s G F => bind2 (h s G F) fun _ _ ⟨fl, m', H', a, b, d, e, q⟩ => ⟨fl, m', H', a, b, d, e, k _ _ _ q⟩

theorem sok_nil {Q : AFl → LM → AH → Prop} (h : Q .next m H) : SOk c A env (execs [] env) m H Q :=
  fun s G F => wpAny_execs_nil ⟨.next, m, H, rfl, G, F, (Tr.refl H s).s, h⟩

theorem sok_cons {st : Stmt} {rest : List Stmt} {Q : AFl → LM → AH → Prop}
    (h : SOk c A env (exec st env) m H fun fl m₁ H₁ => match fl with | .next => SOk c A env (execs rest env) m₁ H₁ Q | f => Q f m₁ H₁) : SOk c A env (execs (st :: rest) env) m H Q := by
  intro s G F
  refine wpAny_execs_cons (bind2 (h s G F) fun f s₁ hh => ?_)
  obtain ⟨fl, m₁, H₁, r₁, G₁, F₁, t₁, h₁⟩ := hh
  cases fl with
  | next =>
    simp only [FlR] at r₁
    subst r₁
    exact bind2 (h₁ s₁ G₁ F₁) fun f s₂ ⟨fl, m₂, H₂, r₂, G₂, F₂, t₂, h₂⟩ => ⟨fl, m₂, H₂, r₂, G₂, F₂, t₁.trans t₂, h₂⟩
  | brk => simp only [FlR] at r₁; subst r₁; exact ⟨.brk, m₁, H₁, rfl, G₁, F₁, t₁, h₁⟩
  | cont => simp only [FlR] at r₁; subst r₁; exact ⟨.cont, m₁, H₁, rfl, G₁, F₁, t₁, h₁⟩
  | ret v => simp only [FlR] at r₁; obtain ⟨rv, rfl, r⟩ := r₁; exact ⟨.ret v, m₁, H₁, ⟨rv, rfl, r⟩, G₁, F₁, t₁, h₁⟩

theorem sok_assign {x : Str} {px pos : Pos} {e : Expr} {Q : AFl → LM → AH → Prop} (h : EOk c A env e m H fun v H₁ => Q .next (updM m x v) H₁) (hx : Stores env x)
    (hk : env.scope.kind = .function := by rfl) (hs : swapsWith e (some (.Name x px)) pos.line env = pure false := by rfl) : SOk c A env (exec (.Assign [.Name x px] e pos) env) m H Q := by
  intro s G F
  refine wpAny_Assign_Name (bind2 (h s G F) fun rv s₁ hh => ?_) hs
  obtain ⟨v, H₁, r₁, G₁, t₁, h₁⟩ := hh
  exact store_ok G₁ (F.tr G t₁) r₁ hk hx fun h' tk G' F' t' => ⟨.next, _, H₁, rfl, G', F', t₁.s.trans t', h₁⟩

theorem sok_if {test : Expr} {body orelse : List Stmt} {pos : Pos} {Q : AFl → LM → AH → Prop}
    (h : TOk c A env test m H fun b H₁ => if b then SOk c A env (execs body env) m H₁ Q else SOk c A env (execs orelse env) m H₁ Q) : SOk c A env (exec (.If test body orelse pos) env) m H Q := by
  intro s G F
  refine wpAny_If (bind2 (h s G F) fun b s₁ ⟨H₁, G₁, t₁, h₁⟩ => ?_)
  cases b with
  | true =>
    simp only [if_true] at h₁ ⊢
    exact bind2 (h₁ s₁ G₁ (F.tr G t₁)) fun f s₂ ⟨fl, m₂, H₂, r₂, G₂, F₂, t₂, h₂⟩ => ⟨fl, m₂, H₂, r₂, G₂, F₂, t₁.s.trans t₂, h₂⟩
  | false =>
    simp only [Bool.false_eq_true, if_false] at h₁ ⊢
    exact bind2 (h₁ s₁ G₁ (F.tr G t₁)) fun f s₂ ⟨fl, m₂, H₂, r₂, G₂, F₂, t₂, h₂⟩ => ⟨fl, m₂, H₂, r₂, G₂, F₂, t₁.s.trans t₂, h₂⟩

theorem sok_return {e : Expr} {pos : Pos} {Q : AFl → LM → AH → Prop} (h : EOk c A env e m H fun v H₁ => Q (.ret v) m H₁) : SOk c A env (exec (.Return (some e) pos) env) m H Q := by
  intro s G F
  exact wpAny_Return_some (bind2 (h s G F) fun rv s₁ ⟨v, H₁, r₁, G₁, t₁, h₁⟩ => ⟨.ret v, m, H₁, ⟨rv, rfl, r₁⟩, G₁, F.tr G t₁, t₁.s, h₁⟩)

theorem sok_expr {e : Expr} {pos : Pos} {Q : AFl → LM → AH → Prop} (h : EOk c A env e m H fun v H₁ => v = .none ∧ Q .next m H₁) (hi : interactive env = false := by rfl)
    (hs : swapsWith e none pos.line env = pure false := by rfl) : SOk c A env (exec (.Expr e pos) env) m H Q := by
  intro s G F
  refine wpAny_Expr (bind2 (h s G F) fun rv s₁ hh => ?_) hi hs
  obtain ⟨v, H₁, r₁, G₁, t₁, e, h₁⟩ := hh
  subst e
  simp only [VR] at r₁
  subst r₁
  exact ⟨.next, m, H₁, rfl, G₁, F.tr G t₁, t₁.s, h₁⟩

theorem pass_E {α : Type} {t : Sem α} {s : Shared} {P : α → Shared → Prop} {R : α → Shared → Prop} {E : Value → Shared → Prop} (h : wpAny (model c.prog c.w) A t P NoE s) (k : ∀ v s₁, P v s₁ → R v s₁) : wpAny (model c.prog c.w) A t R E s :=
  wpAny_mono h k fun _ _ x => x.elim

theorem sok_while {test : Expr} {body : List Stmt} {pos : Pos} {Q : AFl → LM → AH → Prop} (I : Nat → LM → AH → Prop) (n : Nat) (h0 : I n m H)
    (turn : ∀ n m₁ H₁, I n m₁ H₁ → TOk c A env test m₁ H₁ fun b H₂ => if b then SOk c A env (execs body env) m₁ H₂ (fun fl m₃ H₃ => match fl with
        | .next | .cont => ∃ k, k < n ∧ I k m₃ H₃
        | .brk => Q .next m₃ H₃
        | .ret v => Q (.ret v) m₃ H₃) else Q .next m₁ H₂) : SOk c A env (exec (.While test body [] pos) env) m H Q := by
  intro s G F
  refine wpAny_While (codeAny_whileLoop (fun k s' => ∃ m₁ H₁, I k m₁ H₁ ∧ GH c H₁ s' ∧ GF c env m₁ H₁ s' ∧ TrS env H s H₁ s') ?_ n ⟨m, H, h0, G, F, (Tr.refl H s).s⟩)
  rintro k s' ⟨m₁, H₁, hI, G₁, F₁, t₁⟩
  refine pass_E (turn k m₁ H₁ hI s' G₁ F₁) fun b s₂ ⟨H₂, G₂, t₂, h₂⟩ => ?_
  cases b with
  | false =>
    simp only [Bool.false_eq_true, if_false] at h₂ ⊢
    exact wpAny_execs_nil ⟨.next, m₁, H₂, rfl, G₂, F₁.tr G₁ t₂, t₁.trans t₂.s, h₂⟩
  | true =>
    simp only [if_true] at h₂ ⊢
    refine pass_E (h₂ s₂ G₂ (F₁.tr G₁ t₂)) fun f s₃ hh => ?_
    obtain ⟨fl, m₃, H₃, r₃, G₃, F₃, t₃, h₃⟩ := hh
    have t' := (t₁.trans t₂.s).trans t₃
    cases fl with
    | next => simp only [FlR] at r₃; subst r₃; obtain ⟨j, hj, hI'⟩ := h₃; exact ⟨j, hj, m₃, H₃, hI', G₃, F₃, t'⟩
    | cont => simp only [FlR] at r₃; subst r₃; obtain ⟨j, hj, hI'⟩ := h₃; exact ⟨j, hj, m₃, H₃, hI', G₃, F₃, t'⟩
    | brk => simp only [FlR] at r₃; subst r₃; exact ⟨.next, m₃, H₃, rfl, G₃, F₃, t', h₃⟩
    | ret v => simp only [FlR] at r₃; obtain ⟨rv, rfl, r⟩ := r₃; exact ⟨.ret v, m₃, H₃, ⟨rv, rfl, r⟩, G₃, F₃, t', h₃⟩

/-! iterators -/
noncomputable def iterItems (H : AH) : AV → Option (List AV)
  | .ref a => match H a with
    | some (.lst xs) => some xs
    | _ => none
  | .tup xs => some xs
  | .rng lo n st => some ((List.range n).map fun i : Nat => .int (lo + (i : Int) * st))
  | _ => none

noncomputable def ItAt (h : Heap) (v : AV) (rv : Value) (it : Addr) (i : Nat) : Prop := match v with
  | .ref a => h.IsListIter it a i
  | .tup _ => ∃ t, rv = .ref t ∧ IsTupIter h it t i
  | .rng lo n st => IsRangeIter h it (lo + i * st) (n - i) st
  | _ => False

theorem ItAt.keep {h h' : Heap} {v : AV} {rv : Value} {it : Addr} {i : Nat} (x : ItAt h v rv it i) (k : ∀ o, h.get? it = some o → h'.get? it = some o) : ItAt h' v rv it i := by
  cases v <;> simp only [ItAt] at x ⊢
  · exact x.at k
  · exact k _ x
  · obtain ⟨t, e, o, ho, r⟩ := x; exact ⟨t, e, o, k _ ho, r⟩
theorem ItAt.there {h : Heap} {v : AV} {rv : Value} {it : Addr} {i : Nat} (x : ItAt h v rv it i) : ∃ o vs, h.get? it = some o ∧ o.data = .fields vs ∧ o.cls ≠ .type "tuple" ∧ o.cls ≠ .type "range" := by
  cases v <;> simp only [ItAt] at x
  · obtain ⟨o, ho, hc, hd⟩ := x; exact ⟨o, _, ho, hd, by rw [hc]; simp, by rw [hc]; simp⟩
  · exact ⟨_, _, x, rfl, by simp, by simp⟩
  · obtain ⟨t, e, o, ho, hc, hd⟩ := x; exact ⟨o, _, ho, hd, by rw [hc]; simp, by rw [hc]; simp⟩

theorem iter_new {s : Shared} {v : AV} {rv : Value} {xs : List AV} {Q : Value → Shared → Prop} (G : GH c H s) (r : VR c.b s.heap v rv) (hx : iterItems H v = some xs)
    (h : ∀ ob, ob.isFreed = false → ItAt (s.heap.push ob) v rv s.heap.objs.size 0 → Q (.ref s.heap.objs.size) { s with heap := s.heap.push ob }) : wpAny (model c.prog c.w) A (pyIter rv) Q NoE s := by
  cases v with
  | ref a =>
    simp only [VR] at r
    subst r
    simp only [iterItems] at hx
    split at hx
    · rename_i q
      obtain ⟨vs, p, _⟩ := G.lst q
      exact wpAny_pyIter_list p.isList (h _ rfl ⟨_, Heap.get?_push_size _ rfl, rfl, rfl⟩)
    · cases hx
  | tup ys =>
    have r' := r
    simp only [VR] at r
    obtain ⟨t, vs, rfl, ht, _⟩ := r
    exact iter_tuple ht (h _ rfl ⟨t, rfl, _, Heap.get?_push_size _ rfl, rfl, rfl⟩)
  | rng lo n st =>
    simp only [VR] at r
    obtain ⟨a, hi, t, u, w, rfl, hr, hs, hz⟩ := r
    refine wpAny_pyIter_range hr hs (h _ rfl ?_)
    simp only [ItAt]
    rw [show lo + ((0 : Nat) : Int) * st = lo by simp, show ((n : Int) - ((0 : Nat) : Int)) = n by simp, ← hz]
    exact Heap.get?_push_size _ rfl
  | _ => simp [iterItems] at hx

theorem iter_next {s : Shared} {v : AV} {rv : Value} {it : Addr} {i : Nat} {xs : List AV} {y : AV} {Q : Option Value → Shared → Prop} {E : Value → Shared → Prop} (G : GH c H s) (r : VR c.b s.heap v rv) (hx : iterItems H v = some xs) (hy : xs[i]? = some y)
    (hit : ItAt s.heap v rv it i) (h : ∀ h' tk ry, VR c.b s.heap y ry → ItAt h' v rv it (i + 1) → Heap.SameBut it s.heap h' → Q (some ry) { s with heap := h', toks := tk }) : wpAny (model c.prog c.w) A (pyNext (.ref it)) Q E s := by
  cases v with
  | ref a =>
    simp only [iterItems] at hx
    split at hx
    · rename_i q
      cases hx
      obtain ⟨vs, p, rs⟩ := G.lst q
      obtain ⟨ry, hv, hr⟩ := rs.get hy
      exact wpAny_pyNext_list_item hit p.isList (by simpa using hv) fun h' a b => h h' s.toks ry hr a b
    · cases hx
  | tup ys =>
    simp only [iterItems] at hx
    cases hx
    simp only [VR] at r
    obtain ⟨t, vs, rfl, ht, rs⟩ := r
    obtain ⟨t', e, hi⟩ := hit
    cases e
    obtain ⟨ry, hv, hr⟩ := rs.get hy
    exact next_tuple_item hi ht (by simpa using hv) fun h' a b => h h' s.toks ry hr ⟨t, rfl, a⟩ b
  | rng lo n st =>
    simp only [iterItems] at hx
    cases hx
    have hin : i < n := by
      have := (List.getElem?_eq_some_iff.mp hy).1
      simpa using this
    have he : y = .int (lo + i * st) := by simpa [hin] using hy.symm
    subst he
    refine wpAny_pyNext_range_item hit (by omega) fun h' a b => h h' _ _ (by simp [VR]) ?_ b
    simp only [ItAt]
    rw [show lo + ((i + 1 : Nat) : Int) * st = lo + i * st + st by rw [Int.natCast_add, Int.add_mul]; simp; omega, show ((n : Int) - ((i + 1 : Nat) : Int)) = n - i - 1 by omega]
    exact a
  | _ => simp [iterItems] at hx

theorem iter_end {s : Shared} {v : AV} {rv : Value} {it : Addr} {i : Nat} {xs : List AV} {Q : Option Value → Shared → Prop} {E : Value → Shared → Prop} (hh : A.handled = none) (G : GH c H s) (r : VR c.b s.heap v rv) (hx : iterItems H v = some xs) (hy : xs[i]? = none)
    (hit : ItAt s.heap v rv it i) (h : ∀ h', Heap.ExtBut it s.heap h' → Q none { s with heap := h' }) : wpAny (model c.prog c.w) A (pyNext (.ref it)) Q E s := by
  cases v with
  | ref a =>
    simp only [iterItems] at hx
    split at hx
    · rename_i q
      cases hx
      obtain ⟨vs, p, rs⟩ := G.lst q
      exact wpAny_pyNext_list_end hh hit p.isList (by simpa [rs.length] using hy) h
    · cases hx
  | tup ys =>
    simp only [iterItems] at hx
    cases hx
    simp only [VR] at r
    obtain ⟨t, vs, rfl, ht, rs⟩ := r
    obtain ⟨t', e, hi⟩ := hit
    cases e
    exact next_tuple_end hh hi ht (by simpa [rs.length] using hy) h
  | rng lo n st =>
    simp only [iterItems] at hx
    cases hx
    have hin : n ≤ i := by simpa using hy
    exact wpAny_pyNext_range_end hh hit (by omega) h
  | _ => simp [iterItems] at hx

/-- an object apart -/
structure Apart (c : Cx) (env : Env) (H : AH) (a : Addr) : Prop where
  h : H a = none
  l : a ≠ env.locals
  cells : ∀ x, env.cells.lookup x ≠ some a
  b : c.b.get? a = none

theorem Apart.new {s : Shared} (G : GH c H s) (F : GF c env m H s) {a : Addr} (ha : s.heap.get? a = none) : Apart c env H a := by
  refine ⟨G.none_of_new ha, ?_, fun x e => ?_, G.base_none ha⟩
  · rintro rfl
    obtain ⟨_, ⟨o, _, _, ho, _⟩, _⟩ := F.ns
    rw [ha] at ho; cases ho
  · obtain ⟨_, _, _, o, ho, _⟩ := F.cells x a e
    rw [ha] at ho; cases ho

/-- a change of an object apart (an iterator) -/
theorem apart_set {s : Shared} {it : Addr} {h' : Heap} {tk : Nat} (G : GH c H s) (F : GF c env m H s) (P : Apart c env H it) {o : Obj} {vs : Array Value} (ho : s.heap.get? it = some o) (hd : o.data = .fields vs)
    (hn1 : o.cls ≠ .type "tuple") (hn2 : o.cls ≠ .type "range") (hs : Heap.ExtBut it s.heap h') : GH c H { s with heap := h', toks := tk } ∧ GF c env m H { s with heap := h', toks := tk } ∧ TupKept s.heap h' := by
  have tk' : TupKept s.heap h' := fun a ob hc _ e => hs a ob (by
    rintro rfl
    rw [ho] at e; cases e
    exact hc.elim hn1 hn2) e
  refine ⟨⟨fun a ob e => ⟨(G.objs a ob e).1.kept tk' fun x => hs a x (by rintro rfl; rw [P.h] at e; cases e), (G.objs a ob e).2⟩, fun a ob e => hs a ob (by rintro rfl; rw [P.b] at e; cases e) (G.keep a ob e), G.bare⟩, ?_, tk'⟩
  obtain ⟨mr, ⟨oL, es, ep, hoL, r⟩, hv⟩ := F.ns
  refine ⟨F.own, F.new, fun y cc e => ?_, mr, ⟨oL, es, ep, hs _ _ (Ne.symm P.l) hoL, r⟩, fun y w e => ?_⟩
  · obtain ⟨h1, h2, v, oc, h3, h4⟩ := F.cells y cc e
    exact ⟨h1, h2, v, oc, hs _ _ (by rintro rfl; exact P.cells y e) h3, h4⟩
  · rcases hv y w e with ⟨h1, rv, h2, h3⟩ | ⟨h1, cc, rv, h2, ⟨oc, h4, h5⟩, h6⟩
    · exact .inl ⟨h1, rv, h2, h3.kept tk'⟩
    · exact .inr ⟨h1, cc, rv, h2, ⟨oc, hs _ _ (by rintro rfl; exact P.cells y h2) h4, h5⟩, h6.kept tk'⟩

theorem TrS.apart {H' : AH} {s s' : Shared} (t : TrS env H s H' s') {a : Addr} (P : Apart c env H a) {o : Obj} (ho : s.heap.get? a = some o) : Apart c env H' a ∧ s'.heap.get? a = some o :=
  ⟨⟨t.dom a o P.h ho, P.l, P.cells, P.b⟩, t.keep a o P.h P.l P.cells ho⟩

theorem sok_for {x : Str} {px pos : Pos} {iter : Expr} {body : List Stmt} {Q : AFl → LM → AH → Prop} (hh : A.handled = none)
    (h : EOk c A env iter m H fun v H₁ => ∃ xs, iterItems H₁ v = some xs ∧ ∃ I : Nat → LM → AH → Prop, I 0 m H₁ ∧
      (∀ i m₁ H₂ y, I i m₁ H₂ → xs[i]? = some y → iterItems H₂ v = some xs ∧ SOk c A env (execs body env) (updM m₁ x y) H₂ (fun fl m₃ H₃ => match fl with
        | .next | .cont => I (i + 1) m₃ H₃
        | .brk => Q .next m₃ H₃
        | .ret w => Q (.ret w) m₃ H₃)) ∧
      (∀ m₁ H₂, I xs.length m₁ H₂ → iterItems H₂ v = some xs ∧ Q .next m₁ H₂))
    (hx : Stores env x) (hk : env.scope.kind = .function := by rfl) (hs : ∀ v, foldedSetIterable iter env v = pure v := by intro _; rfl) : SOk c A env (exec (.For (.Name x px) iter body [] pos) env) m H Q := by
  intro s G F
  refine wpAny_For (bind2 (h s G F) fun rv s₁ hh => ?_) hs
  obtain ⟨v, H₁, r₁, G₁, t₁, xs, hi, I, hI0, hturn, hdone⟩ := hh
  have F₁ := F.tr G t₁
  refine iter_new G₁ r₁ hi fun ob hfree hit => ?_
  have P₁ := Apart.new G₁ F₁ (get_size s₁.heap)
  have k₁ := push_keeps s₁.heap ob
  let JI : Nat → Shared → Prop := fun n s' => ∃ i m₂ H₂, C9 (n = xs.length + 1 - i) (i ≤ xs.length) (I i m₂ H₂) (GH c H₂ s') (GF c env m₂ H₂ s') (TrS env H s H₂ s') (Apart c env H₂ s₁.heap.objs.size) (ItAt s'.heap v rv s₁.heap.objs.size i) (VR c.b s'.heap v rv)
  refine codeAny_forLoop JI ?_ (xs.length + 1)
    ⟨0, m, H₁, rfl, Nat.zero_le _, hI0, G₁.ext (tk := s₁.toks) k₁, F₁.tr G₁ (.ext (tk := s₁.toks) k₁), t₁.s.trans (Tr.ext (tk := s₁.toks) k₁).s, P₁, hit, r₁.kept fun a o _ _ e => k₁ a o e⟩
  rintro n s' ⟨i, m₂, H₂, rfl, hle, hI, G₂, F₂, t₂, P₂, hit₂, r₂⟩
  obtain ⟨oi, ivs, hoi, hdi, hn1, hn2⟩ := hit₂.there
  cases hy : xs[i]? with
  | none =>
    have hlen : i = xs.length := Nat.le_antisymm hle (by simpa using hy)
    subst hlen
    obtain ⟨hi', hq⟩ := hdone m₂ H₂ hI
    refine iter_end hh G₂ r₂ hi' hy hit₂ fun h' he => wpAny_execs_nil ?_
    obtain ⟨G₃, F₃, tk₃⟩ := apart_set (tk := s'.toks) G₂ F₂ P₂ hoi hdi hn1 hn2 he
    refine ⟨.next, m₂, H₂, rfl, G₃, F₃, ⟨fun a o e1 e2 e3 e => ?_, fun a o e1 e => ?_, t₂.dom, t₂.os⟩, hq⟩
    · have e' := t₂.keep a o e1 e2 e3 e
      refine he a o ?_ e'
      rintro rfl
      have := t₁.keep _ _ e1 e
      rw [get_size] at this; cases this
    · obtain ⟨o', e'⟩ := t₂.live a o e1 e
      refine ⟨o', he a o' ?_ e'⟩
      rintro rfl
      have := t₁.keep _ _ e1 e
      rw [get_size] at this; cases this
  | some y =>
    have hlt : i < xs.length := (List.getElem?_eq_some_iff.mp hy).1
    obtain ⟨hi', hb⟩ := hturn i m₂ H₂ y hI hy
    refine iter_next G₂ r₂ hi' hy hit₂ fun h' tk ry hry hit₃ hs₃ => ?_
    obtain ⟨G₃, F₃, tk₃⟩ := apart_set (tk := tk) G₂ F₂ P₂ hoi hdi hn1 hn2 hs₃.extBut
    have t₃ : TrS env H s H₂ { s' with heap := h', toks := tk } := by
      refine ⟨fun a o e1 e2 e3 e => ?_, fun a o e1 e => ?_, t₂.dom, t₂.os⟩
      · have e' := t₂.keep a o e1 e2 e3 e
        refine hs₃.extBut a o ?_ e'
        rintro rfl
        have := t₁.keep _ _ e1 e
        rw [get_size] at this; cases this
      · obtain ⟨o', e'⟩ := t₂.live a o e1 e
        refine ⟨o', hs₃.extBut a o' ?_ e'⟩
        rintro rfl
        have := t₁.keep _ _ e1 e
        rw [get_size] at this; cases this
    refine wpAny_assign_Name (pass_E (store_ok (Q := fun _ s₄ => ∃ h₄ tk₄, s₄ = { s' with heap := h₄, toks := tk₄ } ∧ GH c H₂ s₄ ∧ GF c env (updM m₂ x y) H₂ s₄ ∧ TrS env H₂ { s' with heap := h', toks := tk } H₂ s₄) G₃ F₃ (hry.kept tk₃) hk hx fun h₄ tk₄ G₄ F₄ t₄ => ⟨h₄, tk₄, rfl, G₄, F₄, t₄⟩) ?_)
    rintro _ s₄ ⟨h₄, tk₄, rfl, G₄, F₄, t₄⟩
    refine pass_E (hb _ G₄ F₄) fun f s₅ hh => ?_
    obtain ⟨fl, m₅, H₅, r₅, G₅, F₅, t₅, q₅⟩ := hh
    have t' := (t₃.trans t₄).trans t₅
    obtain ⟨oi', ivs', hoi', hdi', hn1', hn2'⟩ := hit₃.there
    have P₄ := t₄.apart P₂ hoi'
    have P₅ := t₅.apart P₄.1 P₄.2
    have hit₅ : ItAt s₅.heap v rv s₁.heap.objs.size (i + 1) := hit₃.keep fun o e => by
      rw [hoi'] at e; cases e; exact P₅.2
    have cont : I (i + 1) m₅ H₅ → ∃ k, k < xs.length + 1 - i ∧ JI k s₅ := by
      intro hI'
      refine ⟨xs.length + 1 - (i + 1), by omega, i + 1, m₅, H₅, rfl, hlt, hI', G₅, F₅, t', P₅.1, hit₅, ?_⟩
      have tkk : TupKept s'.heap s₅.heap := fun a o hc hd e => by
        have e3 := tk₃ a o hc hd e
        have nH : H₂ a = none := by
          cases hq : H₂ a with
          | none => rfl
          | some ob => obtain ⟨o', e', n, _⟩ := (G₃.objs a ob hq).1.there; rw [e3] at e'; cases e'; exact absurd hc n
        have nL : a ≠ env.locals := by
          rintro rfl
          obtain ⟨_, ⟨o', _, _, ho', hd', _⟩, _⟩ := F₃.ns
          rw [e3] at ho'; cases ho'
          rcases hd with ⟨_, _, hd⟩ | ⟨_, hd⟩ <;> (rw [hd] at hd'; cases hd')
        have nC : ∀ z, env.cells.lookup z ≠ some a := fun z ez => by
          obtain ⟨_, _, _, o', ho', hd'⟩ := F₃.cells z a ez
          rw [e3] at ho'; cases ho'
          rcases hd with ⟨_, _, hd⟩ | ⟨_, hd⟩ <;> (rw [hd] at hd'; cases hd')
        exact t₅.keep a o (t₄.dom a o nH e3) nL nC (t₄.keep a o nH nL nC e3)
      exact r₂.kept tkk
    cases fl with
    | next => simp only [FlR] at r₅; subst r₅; exact cont q₅
    | cont => simp only [FlR] at r₅; subst r₅; exact cont q₅
    | brk => simp only [FlR] at r₅; subst r₅; exact ⟨.next, m₅, H₅, rfl, G₅, F₅, t', q₅⟩
    | ret w => simp only [FlR] at r₅; obtain ⟨rw', rfl, r⟩ := r₅; exact ⟨.ret w, m₅, H₅, ⟨rw', rfl, r⟩, G₅, F₅, t', q₅⟩
end
end Mine
namespace Mine
open PySem PyProof.Rows

/-- a name of the top -/
structure GName (c : Cx) (env : Env) (x : Str) (v : Value) : Prop where
  k : env.scope.kind = .function
  g : env.kindOf x = some .globalImplicit
  d : (x == ("__debug__" : Str)) = false
  at_ : ∃ mg, c.b.Ns env.globals mg ∧ (mg x = some v ∨ (mg x = none ∧ ∃ mb, c.b.Ns env.builtins mb ∧ mb x = some v))

section
variable {c : Cx} {A : Around} {env : Env} {m : LM} {H : AH} {Q : AV → AH → Prop}

theorem gname {x : Str} {v : Value} {pos : Pos} {s : Shared} {R : Value → Shared → Prop} (g : GName c env x v) (G : GH c H s) (h : R v s) : wpAny (model c.prog c.w) A (eval (.Name x pos) env) R NoE s := by
  obtain ⟨mg, hg, e | ⟨e, mb, hb, e'⟩⟩ := g.at_
  · exact Calls.Name_function_global g.k g.g (Calls.loadGlobal_global (hg.keeps G.keep) e h) g.d
  · exact Calls.Name_function_global g.k g.g (Calls.loadGlobal_builtin (hg.keeps G.keep) e (hb.keeps G.keep) e' h) g.d

theorem eok_gname {x : Str} {rv : Value} {v : AV} {pos : Pos} (g : GName c env x rv) (r : VR c.b c.b v rv) (h : Q v H) : EOk c A env (.Name x pos) m H Q :=
  fun s G _ => gname g G ⟨v, H, r.kept fun a o _ _ e => G.keep a o e, G, .refl H s, h⟩

/-- a call of a value with arguments -/
noncomputable def COk (c : Cx) (A : Around) (f : Value) (first : List Value) (vs : List AV) (H : AH) (Q : AV → AH → Prop) : Prop :=
  ∀ s rvs, GH c H s → VRs c.b s.heap vs rvs → wpAny (model c.prog c.w) A (call f (first ++ rvs)) (Ends c H s Q) NoE s

theorem COk.mono {f : Value} {first : List Value} {vs : List AV} {Q' : AV → AH → Prop} (h : COk c A f first vs H Q) (k : ∀ v H, Q v H → Q' v H) : COk c A f first vs H Q' :=
  fun s rvs G r => bind2 (h s rvs G r) fun _ _ ⟨av, H', a, b, d, e⟩ => ⟨av, H', a, b, d, k _ _ e⟩

theorem starAny (pos : Pos) (es : List Expr) (h : ∀ e ∈ es, ∀ rest env, starEach (e :: rest) env = (false, eval e env) :: starEach rest env) : (backTo pos (starEach es env)).any (·.1) = false := by
  induction es with
  | nil => rfl
  | cons e es ih =>
    rw [h e List.mem_cons_self es env]
    simp only [backTo, List.map_cons, List.any_cons, Bool.false_or]
    exact ih fun e' he' => h e' (List.mem_cons_of_mem _ he')

/-- no starred one among them -/
noncomputable def plainArgs : List Expr → Bool
  | [] => true
  | .Starred .. :: _ => false
  | _ :: r => plainArgs r
theorem plainArgs_star : ∀ {es : List Expr}, plainArgs es = true → ∀ e ∈ es, ∀ rest env, starEach (e :: rest) env = (false, eval e env) :: starEach rest env
  | [], _, _, h, _, _ => (nomatch h)
  | x :: xs, hp, e, he, rest, env => by
    rcases List.mem_cons.mp he with rfl | he
    · cases e <;> first | rfl | (simp [plainArgs] at hp)
    · refine plainArgs_star (es := xs) ?_ e he rest env
      cases x <;> first | exact hp | (simp [plainArgs] at hp)

theorem args_ok {f : Value} {pos : Pos} {e : Expr} {es : List Expr} {s : Shared} {P : List AV → AH → Prop} (hp : plainArgs (e :: es) = true) (G : GH c H s) (F : GF c env m H s) (h : EsOk c A env (e :: es) m H P) :
    wpAny (model c.prog c.w) A (evalArgs f true (backTo pos (starEach (e :: es) env)) []) (fun a s₁ => a.kw = [] ∧ ∃ avs H₁, VRs c.b s₁.heap avs a.pos ∧ GH c H₁ s₁ ∧ Tr H s H₁ s₁ ∧ P avs H₁) NoE s := by
  have he := plainArgs_star hp e List.mem_cons_self es env
  have h' := h s pos G F
  rw [he] at h' ⊢
  exact Calls.evalArgs_plain (bind2 h' fun vs s₁ x => ⟨rfl, x⟩)

theorem COk.use {f : Value} {first : List Value} {avs : List AV} {a : Args} {H₁ : AH} {s s₁ : Shared} (hk : a.kw = []) (r : VRs c.b s₁.heap avs a.pos) (G : GH c H₁ s₁) (t : Tr H s H₁ s₁) (h : COk c A f first avs H₁ Q) :
    wpAny (model c.prog c.w) A (call f (first ++ a.pos) a.kw) (Ends c H s Q) NoE s₁ := by
  rw [hk]
  exact bind2 (h s₁ a.pos G r) fun v s₂ e => .after t e

theorem eok_callB {x : Str} {p pos : Pos} {id : String} {e : Expr} {es : List Expr} (g : GName c env x (.builtin id)) (h : EsOk c A env (e :: es) m H fun vs H₁ => COk c A (.builtin id) [] vs H₁ Q) (hp : plainArgs (e :: es) = true := by rfl) :
    EOk c A env (.Call (.Name x p) (e :: es) [] pos) m H Q := by
  intro s G F
  refine wpAny_Call_NameR (gname g G (Calls.callWith_builtin (starAny pos _ (plainArgs_star hp)) (bind2 (args_ok hp G F h) fun a s₁ hh => ?_)))
  obtain ⟨hk, avs, H₁, r, G₁, t, h₁⟩ := hh
  exact h₁.use hk r G₁ t
theorem eok_callT {x : Str} {p pos : Pos} {T : String} {e : Expr} {es : List Expr} (g : GName c env x (.type T)) (h : EsOk c A env (e :: es) m H fun vs H₁ => COk c A (.type T) [] vs H₁ Q) (hp : plainArgs (e :: es) = true := by rfl) :
    EOk c A env (.Call (.Name x p) (e :: es) [] pos) m H Q := by
  intro s G F
  refine wpAny_Call_NameR (gname g G (PySem.callWith_type (starAny pos _ (plainArgs_star hp)) (bind2 (args_ok hp G F h) fun a s₁ hh => ?_)))
  obtain ⟨hk, avs, H₁, r, G₁, t, h₁⟩ := hh
  exact h₁.use hk r G₁ t
theorem eok_callF {x : Str} {p pos : Pos} {f : Addr} {o : Obj} {fd : FuncData} {e : Expr} {es : List Expr} (g : GName c env x (.ref f)) (ho : c.b.get? f = some o) (hd : o.data = .func fd)
    (h : EsOk c A env (e :: es) m H fun vs H₁ => COk c A (.ref f) [] vs H₁ Q) (hp : plainArgs (e :: es) = true := by rfl) : EOk c A env (.Call (.Name x p) (e :: es) [] pos) m H Q := by
  intro s G F
  refine wpAny_Call_NameR (gname g G (Calls.callWith_function (o := o) (fd := fd) (bind2 (args_ok hp G F h) fun a s₁ ⟨hk, avs, H₁, r, G₁, t, h₁⟩ => ⟨⟨G₁.keep _ _ ho, hd⟩, ?_⟩)))
  exact h₁.use hk r G₁ t

/-! a def of the text's own -/
noncomputable def retOf : AFl → AV
  | .ret v => v
  | _ => .none

theorem bindL_get (kindOf : Str → Option NameKind) : ∀ (ps : List Str) (rvs : List Value) (m : Str → Option Value) (x : Str), ps.Nodup → kindOf x = some .local →
    bindL kindOf (ps.zip rvs) m x = match (ps.zip rvs).lookup x with | some v => some v | none => m x
  | [], _, m, x, _, _ => by simp [bindL]
  | p :: ps, [], m, x, _, _ => by simp [bindL]
  | p :: ps, v :: rvs, m, x, hn, hk => by
    obtain ⟨hp, hn'⟩ := List.nodup_cons.mp hn
    simp only [List.zip_cons_cons, bindL]
    rw [bindL_get kindOf ps rvs _ x hn' hk, List.lookup_cons]
    by_cases hx : x = p
    · subst hx
      have : (ps.zip rvs).lookup x = none := by
        rw [List.lookup_eq_none_iff]
        intro q hq
        have := (List.of_mem_zip hq).1
        exact bne_iff_ne.mpr fun e => hp (e ▸ this)
      simp [this, hk]
    · have : (x == p) = false := by simpa using hx
      rw [this]
      cases (ps.zip rvs).lookup x with
      | some w => rfl
      | none => simp only; split <;> simp [hx]
theorem bindC_get (kindOf : Str → Option NameKind) : ∀ (ps : List Str) (rvs : List Value) (m : Str → Option Value) (x : Str), ps.Nodup → kindOf x = some .cell →
    bindC kindOf (ps.zip rvs) m x = match (ps.zip rvs).lookup x with | some v => some v | none => m x
  | [], _, m, x, _, _ => by simp [bindC]
  | p :: ps, [], m, x, _, _ => by simp [bindC]
  | p :: ps, v :: rvs, m, x, hn, hk => by
    obtain ⟨hp, hn'⟩ := List.nodup_cons.mp hn
    simp only [List.zip_cons_cons, bindC]
    rw [bindC_get kindOf ps rvs _ x hn' hk, List.lookup_cons]
    by_cases hx : x = p
    · subst hx
      have : (ps.zip rvs).lookup x = none := by
        rw [List.lookup_eq_none_iff]
        intro q hq
        have := (List.of_mem_zip hq).1
        exact bne_iff_ne.mpr fun e => hp (e ▸ this)
      simp [this, hk]
    · have : (x == p) = false := by simpa using hx
      rw [this]
      cases (ps.zip rvs).lookup x with
      | some w => rfl
      | none => simp only; split <;> simp [hx]

theorem lookup_zip_rel {b h : Heap} : ∀ {ps : List Str} {vs : List AV} {rvs : List Value} {x : Str} {v : AV}, VRs b h vs rvs → (ps.zip vs).lookup x = some v → ∃ rv, (ps.zip rvs).lookup x = some rv ∧ VR b h v rv
  | [], _, _, _, _, _, e => by simp at e
  | p :: ps, [], _, _, _, _, e => by simp at e
  | p :: ps, w :: vs, rvs, x, v, r, e => by
    simp only [VRs] at r
    obtain ⟨rw', r', rfl, h1, h2⟩ := r
    simp only [List.zip_cons_cons, List.lookup_cons] at e ⊢
    cases hx : x == p with
    | true => rw [hx] at e; simp only [Option.some.injEq] at e; subst e; exact ⟨rw', rfl, h1⟩
    | false => rw [hx] at e; exact lookup_zip_rel h2 e

/-- the facts of a def -/
structure DefOk (c : Cx) (f : Addr) (fd : FuncData) (body : List Stmt) (ps : List Str) : Prop where
  at_ : ∃ o, c.b.get? f = some o ∧ o.data = .func fd
  nolimit : c.b.NoLimit
  code : c.b.CodeRec fd.code fd.qualname
  body : fd.body = .stmts body
  closure : fd.closure = []
  bind : ∀ rvs : List Value, rvs.length = ps.length → bindArgs fd ⟨rvs, []⟩ = pure (ps.zip rvs)
  nodup : ps.Nodup
  kinds : ∀ L x, x ∈ ps → fd.scope.names.lookup x = some .local ∨ (fd.scope.names.lookup x = some .cell ∧ ((cellsFrom (L + 1) fd.scope.names []).lookup x).isSome = true)
  co : fd.scope.isCoroutine = false
  gen : fd.scope.isGenerator = false
  kind : fd.scope.kind = .function

/-- a call as code -/
noncomputable def CodeOk (c : Cx) (A : Around) (f : Value) (first : List Value) (vs : List AV) (H : AH) (Q : AV → AH → Prop) : Prop :=
  ∀ s rvs, GH c H s → VRs c.b s.heap vs rvs → codeAny (model c.prog c.w) A (.call f ⟨first ++ rvs, []⟩) (fun r s' => match r with | .ok (.ret v) => Ends c H s Q v s' | .ok _ => False | .error e => NoE e s') s
theorem CodeOk.cok {f : Value} {first : List Value} {vs : List AV} (h : CodeOk c A f first vs H Q) : COk c A f first vs H Q := fun s rvs G r => wpAny_call (h s rvs G r)

theorem code_of_def {f : Addr} {fd : FuncData} {body : List Stmt} {ps : List Str} {vs : List AV} {first : List Value} {fvs : List AV} (D : DefOk c f fd body ps) (hroom : A.depth < recursionLimit) (hlen : (fvs ++ vs).length = ps.length)
    (hfirst : ∀ h, VRs c.b h fvs first)
    (hb : ∀ L, SOk c (A.deeper (callEnvC fd L f)) (callEnvC fd L f) (execs body (callEnvC fd L f)) (fun x => (ps.zip (fvs ++ vs)).lookup x) H fun fl _ H' => Q (retOf fl) H') : CodeOk c A (.ref f) first vs H Q := by
  intro s rvs G r
  have rr : VRs c.b s.heap (fvs ++ vs) (first ++ rvs) := (hfirst _).append r
  obtain ⟨o, ho, hd⟩ := D.at_
  have hl := rr.length
  refine codeAny_call_cells hroom (G.keep _ _ ho) hd (D.nolimit.keeps G.keep) (D.code.keeps G.keep) D.body (D.bind _ (hl.trans hlen)) D.closure (fun x hx => D.kinds _ _ (List.of_mem_zip hx).1) (fun s₁ x => ?_) D.co D.gen D.kind
  obtain ⟨⟨⟨h₁, tk₁, rfl⟩, hns, hkeep, hfresh⟩, hcell, hapart, habove⟩ := x
  have G₁ : GH c H { s with heap := h₁, toks := tk₁ } := G.ext hkeep
  have cellNew : ∀ x cc, (callEnvC fd s.heap.objs.size f).cells.lookup x = some cc → s.heap.get? cc = none := fun x cc e => by
    cases hq : s.heap.get? cc with
    | none => rfl
    | some ob => exact absurd (Heap.lt_size hq) (Nat.not_lt.mpr (Nat.le_of_lt (habove x cc (mem_of_lookup e))))
  have F₁ : GF c (callEnvC fd s.heap.objs.size f) (fun x => (ps.zip (fvs ++ vs)).lookup x) H { s with heap := h₁, toks := tk₁ } := by
    refine ⟨G.none_of_new (get_size _), G.base_none (get_size _), fun x cc e => ⟨G.none_of_new (cellNew x cc e), G.base_none (cellNew x cc e), _, hcell x cc e⟩, _, hns, fun x v e => ?_⟩
    obtain ⟨rv, hrv, hr⟩ := lookup_zip_rel rr e
    have hx : x ∈ ps := (List.of_mem_zip (mem_of_lookup hrv)).1
    have hr' : VR c.b h₁ v rv := hr.kept fun a o _ _ e => hkeep a o e
    rcases D.kinds s.heap.objs.size x hx with hk | ⟨hk, hc⟩
    · refine .inl ⟨hk, rv, ?_, hr'⟩
      rw [bindL_get _ _ _ _ _ D.nodup hk, hrv]
    · obtain ⟨cc, hcc⟩ := Option.isSome_iff_exists.mp hc
      refine .inr ⟨.inl hk, cc, rv, hcc, ?_, hr'⟩
      have := hcell x cc hcc
      rw [bindC_get _ _ _ _ _ D.nodup hk, hrv] at this
      exact this
  refine pass_E (hb _ _ G₁ F₁) fun fl s₂ hh => ?_
  obtain ⟨afl, m₂, H₂, r₂, G₂, F₂, t₂, q₂⟩ := hh
  refine ⟨retOf afl, H₂, ?_, G₂, ⟨fun a ob e1 e => ?_, fun a ob e1 e => t₂.dom a ob e1 (hkeep a ob e), t₂.os⟩, q₂⟩
  · cases afl with
    | ret v => simp only [FlR] at r₂; obtain ⟨rv, rfl, h⟩ := r₂; exact h
    | next => simp only [FlR] at r₂; subst r₂; simp [retOf, VR]
    | brk => simp only [FlR] at r₂; subst r₂; simp [retOf, VR]
    | cont => simp only [FlR] at r₂; subst r₂; simp [retOf, VR]
  · refine t₂.keep a ob e1 ?_ ?_ (hkeep a ob e)
    · rintro rfl
      rw [show (callEnvC fd s.heap.objs.size f).locals = s.heap.objs.size from rfl, get_size] at e; cases e
    · intro x ex
      rw [cellNew x a ex] at e; cases e
end
end Mine
namespace Mine
open PySem PyProof.Rows

section
variable {c : Cx} {A : Around} {env : Env} {m : LM} {H : AH} {Q : AV → AH → Prop}

theorem bin_mod {a b : Int} (hb : b ≠ 0) (h : Q (.int (a.fmod b)) H) : BinOk c A .Mod (.int a) (.int b) H Q := fun _ _ _ G x y => by
  obtain ⟨_, rfl⟩ := ints_of x; obtain ⟨_, rfl⟩ := ints_of y; exact mod_int' hb (ends_int G h)

theorem VRs.one {b h : Heap} {x : AV} {vs : List Value} (e : VRs b h [x] vs) : ∃ v, vs = [v] ∧ VR b h x v := by
  simp only [VRs] at e
  obtain ⟨v, r, rfl, h1, rfl⟩ := e
  exact ⟨v, rfl, h1⟩
theorem VRs.two {b h : Heap} {x y : AV} {vs : List Value} (e : VRs b h [x, y] vs) : ∃ v w, vs = [v, w] ∧ VR b h x v ∧ VR b h y w := by
  simp only [VRs] at e
  obtain ⟨v, r, rfl, h1, w, r', rfl, h2, rfl⟩ := e
  exact ⟨v, w, rfl, h1, h2⟩
theorem VRs.three {b h : Heap} {x y z : AV} {vs : List Value} (e : VRs b h [x, y, z] vs) : ∃ v w u, vs = [v, w, u] ∧ VR b h x v ∧ VR b h y w ∧ VR b h z u := by
  simp only [VRs] at e
  obtain ⟨v, r, rfl, h1, w, r', rfl, h2, u, r'', rfl, h3, rfl⟩ := e
  exact ⟨v, w, u, rfl, h1, h2, h3⟩

/-- how long -/
noncomputable def alen (H : AH) : AV → Option Nat
  | .ref a => match H a with
    | some (.lst xs) => some xs.length
    | _ => none
  | .tup xs => some xs.length
  | .fro ns => some ns.length
  | _ => none

theorem ends_intT {s : Shared} {i : Int} {t : Tok} {tk : Nat} (G : GH c H s) (h : Q (.int i) H) : Ends c H s Q (.int i t) { s with toks := tk } :=
  ⟨.int i, H, by simp [VR], ⟨G.objs, G.keep, G.bare⟩, ⟨fun _ _ _ e => e, fun _ _ h _ => h, rfl⟩, h⟩

theorem cok_len {v : AV} {n : Nat} (hn : alen H v = some n) (hfit : n < 2 ^ 62) (h : Q (.int n) H) : COk c A (.builtin "len") [] [v] H Q := by
  intro s rvs G rr
  obtain ⟨rv, rfl, r⟩ := rr.one
  cases v with
  | ref a =>
    simp only [alen] at hn
    split at hn
    · rename_i xs q
      cases hn
      simp only [VR] at r
      subst r
      obtain ⟨vs, p, rs⟩ := G.lst q
      have e : (vs.toArray.size : Int) = xs.length := by rw [List.size_toArray, rs.length]
      refine Calls.call_len_list p.isList (by rw [e]; omega) ?_
      rw [e]; exact ends_intT G h
    · cases hn
  | tup ys =>
    simp only [alen] at hn
    cases hn
    simp only [VR] at r
    obtain ⟨t, vs, rfl, ht, rs⟩ := r
    have e : (vs.toArray.size : Int) = ys.length := by rw [List.size_toArray, rs.length]
    refine len_tuple ht (by rw [e]; omega) ?_
    rw [e]; exact ends_intT G h
  | fro ns =>
    simp only [alen] at hn
    cases hn
    simp only [VR] at r
    obtain ⟨l, vs, rfl, p, ts, hts, rfl⟩ := r
    have p' : s.heap.IsList l (List.zipWith Value.int ns ts).toArray := p.at fun o e => G.keep _ _ e
    have e : ((List.zipWith Value.int ns ts).toArray.size : Int) = ns.length := by simp [hts]
    refine Calls.call_len_list p' (by rw [e]; omega) ?_
    rw [e]; exact ends_intT G h
  | _ => simp [alen] at hn

theorem rangeSize_up (n : Int) : Builtin.Range.rangeSize 0 n 1 = (n.toNat : Int) := by
  rw [rangeSize_one]; split <;> omega
theorem cok_range1 {n : Int} (hlo : -(2 ^ 62) ≤ n) (hhi : n < 2 ^ 62) (h : Q (.rng 0 n.toNat 1) H) : COk c A (.type "range") [] [.int n] H Q := by
  intro s rvs G rr
  obtain ⟨rv, rfl, r⟩ := rr.one
  obtain ⟨t, rfl⟩ := ints_of r
  have k := push_keeps s.heap { cls := .type "range", data := .fields #[.int 0 s.toks, .int n t, .int 1 (s.toks + 1)] }
  refine call_range_1 ⟨.rng 0 n.toNat 1, H, ?_, G.ext k, .ext k, h⟩
  simp only [VR]
  exact ⟨_, n, _, t, _, rfl, Heap.get?_push_size _ rfl, small_one (by omega) (by omega) hlo hhi, rangeSize_up n⟩

theorem rangeSize_down (n : Nat) : Builtin.Range.rangeSize ((n : Int) - 1) (-1) (-1) = n := by
  unfold Builtin.Range.rangeSize
  rw [if_neg (by decide)]
  split
  · simp
  · omega
theorem small_down {n : Nat} (h : n < 2 ^ 62) : Builtin.Range.small ((n : Int) - 1) (-1) (-1) = true := by
  unfold Builtin.Range.small
  rw [rangeSize_down]
  simp only [Builtin.Range.rangeFitsLong]
  simp
  omega
theorem cok_range_down {n : Nat} (hhi : n < 2 ^ 62) (h : Q (.rng ((n : Int) - 1) n (-1)) H) : COk c A (.type "range") [] [.int ((n : Int) - 1), .int (-1), .int (-1)] H Q := by
  intro s rvs G r
  obtain ⟨v1, v2, v3, rfl, r1, r2, r3⟩ := r.three
  obtain ⟨t, rfl⟩ := ints_of r1
  obtain ⟨u, rfl⟩ := ints_of r2
  obtain ⟨w, rfl⟩ := ints_of r3
  have k := push_keeps s.heap { cls := .type "range", data := .fields #[.int ((n : Int) - 1) t, .int (-1) u, .int (-1) w] }
  refine call_range_3 (by decide) ⟨.rng ((n : Int) - 1) n (-1), H, ?_, G.ext k, .ext k, h⟩ (.inl (PyProof.noPylong_small (by omega)))
  simp only [VR]
  exact ⟨_, -1, t, u, w, rfl, Heap.get?_push_size _ rfl, small_down hhi, rangeSize_down n⟩

theorem cok_list {a : Addr} {xs : List AV} (ha : H a = some (.lst xs)) (hsz : xs.length ≤ sizeLine) (h : ∀ r, H r = none → Q (.ref r) (upd H r (.lst xs))) : COk c A (.type "list") [] [.ref a] H Q := by
  intro s rvs G rr
  obtain ⟨rv, rfl, r⟩ := rr.one
  simp only [VR] at r
  subst r
  obtain ⟨vs, ⟨n, p⟩, rs⟩ := G.lst ha
  refine call_list_seq a (.inl rfl) p rfl rfl (fun h' c' k hn => ?_) (by rw [List.size_toArray, rs.length]; exact hsz)
  exact ⟨.ref s.heap.objs.size, upd H s.heap.objs.size (.lst xs), by simp [VR], G.alloc (tk := s.toks) k (get_size _) ⟨vs, ⟨c', hn⟩, rs.kept fun a o _ _ e => k a o e⟩, .alloc (tk := s.toks) k (get_size _), h _ (G.none_of_new (get_size _))⟩

/-- ints of a value that is gone over -/
theorem walk_ints {s : Shared} {v : AV} {rv : Value} {ns : List Int} {R : Value → Shared → Prop} (hh : A.handled = none) (G : GH c H s) (r : VR c.b s.heap v rv) (hv : (∃ a, v = .ref a ∧ H a = some (.lst (ns.map .int))) ∨ v = .tup (ns.map .int))
    (h : ∀ s₂ I fp wr P St, (∀ b o, s.heap.get? b = some o → s₂.heap.get? b = some o) → (∃ h' , s₂ = { s with heap := h' }) → Walks c.prog c.w A I fp wr ns.length P St → St 0 s₂.heap → (∀ b ∈ fp, b < s₂.heap.objs.size) → (∀ b ∈ wr, s.heap.get? b = none) →
      (∀ i v, P i v → ∃ t, v = .int (ns.getD i 0) t) → R (.ref I) s₂) : wpAny (model c.prog c.w) A (pyIter rv) R NoE s := by
  have item : ∀ (vs : List Value), VRs c.b s.heap (ns.map AV.int) vs → ∀ i v, vs.toArray[i]? = some v → ∃ t, v = Value.int (ns.getD i 0) t := by
    intro vs rs i v e
    have e' : vs[i]? = some v := by simpa using e
    have hi : i < ns.length := by
      have := (List.getElem?_eq_some_iff.mp e').1
      rw [rs.length] at this; simpa using this
    obtain ⟨w, hw, rw'⟩ := rs.get (i := i) (x := .int ns[i]) (by simp [hi])
    rw [e'] at hw; cases hw
    obtain ⟨t, rfl⟩ := ints_of rw'
    exact ⟨t, by simp [hi]⟩
  rcases hv with ⟨a, rfl, ha⟩ | rfl
  · simp only [VR] at r
    subst r
    obtain ⟨vs, p, rs⟩ := G.lst ha
    have hlt : a < s.heap.objs.size := by obtain ⟨_, e⟩ := p; exact Heap.lt_size e
    have hl : vs.toArray.size = ns.length := by rw [List.size_toArray, rs.length]; simp
    have W := Walks.list (prog := c.prog) (w := c.w) (A := A) hh s.heap.objs.size a (Nat.ne_of_lt hlt) vs.toArray
    rw [hl] at W
    refine wpAny_pyIter_list p.isList (h _ _ _ _ _ _ (push_keeps _ _) ⟨_, rfl⟩ W ⟨⟨_, Heap.get?_push_size _ rfl, rfl, rfl⟩, p.isList.push _⟩ ?_ ?_ (item vs rs))
    · intro b hb
      have e1 : b = s.heap.objs.size ∨ b = a := by simpa using hb
      show b < (s.heap.push _).objs.size
      rw [Heap.size_push]
      rcases e1 with e1 | e1
      · rw [e1]; exact Nat.lt_succ_self _
      · rw [e1]; exact Nat.lt_succ_of_lt hlt
    · intro b hb
      simp at hb; subst hb; exact get_size _
  · simp only [VR] at r
    obtain ⟨a, vs, rfl, p, rs⟩ := r
    have hlt : a < s.heap.objs.size := by obtain ⟨_, e, _⟩ := p; exact Heap.lt_size e
    have hl : vs.toArray.size = ns.length := by rw [List.size_toArray, rs.length]; simp
    have W := Walks.tuple (prog := c.prog) (w := c.w) (A := A) hh s.heap.objs.size a (Nat.ne_of_lt hlt) vs.toArray
    rw [hl] at W
    refine wpAny_pyIter_tuple p (h _ _ _ _ _ _ (push_keeps _ _) ⟨_, rfl⟩ W ⟨⟨_, Heap.get?_push_size _ rfl, rfl, rfl⟩, Heap.IsTuple.push (h := s.heap) p _⟩ ?_ ?_ (item vs rs))
    · intro b hb
      have e1 : b = s.heap.objs.size ∨ b = a := by simpa using hb
      show b < (s.heap.push _).objs.size
      rw [Heap.size_push]
      rcases e1 with e1 | e1
      · rw [e1]; exact Nat.lt_succ_self _
      · rw [e1]; exact Nat.lt_succ_of_lt hlt
    · intro b hb
      simp at hb; subst hb; exact get_size _

theorem preSum_take (ns : List Int) : ∀ j, j ≤ ns.length → preSum (fun i => ns.getD i 0) j = (ns.take j).sum
  | 0, _ => by simp [preSum]
  | j + 1, h => by
    have hj : j < ns.length := by omega
    rw [preSum, preSum_take ns j (by omega), List.take_add_one, List.sum_append, List.getElem?_eq_getElem hj]
    simp [hj]

theorem cok_sum {v : AV} {ns : List Int} (hh : A.handled = none) (hv : (∃ a, v = .ref a ∧ H a = some (.lst (ns.map .int))) ∨ v = .tup (ns.map .int)) (hfit : ∀ j, j < ns.length → InLong (ns.getD j 0) ∧ InLong (ns.take (j + 1)).sum)
    (h : Q (.int ns.sum) H) : COk c A (.builtin "sum") [] [v] H Q := by
  intro s rvs G rr
  obtain ⟨rv, rfl, r⟩ := rr.one
  refine call_sum_walk (walk_ints (A := A.in1) hh G r hv fun s₂ I fp wr P St k ⟨h₂, e⟩ W st hfp hwr hP => ?_)
  subst e
  refine ⟨I, fp, wr, ns.length, P, St, (fun i => ns.getD i 0), rfl, W, st, hfp, hP, fun j hj => ⟨(hfit j hj).1, by rw [preSum_take ns (j + 1) hj]; exact (hfit j hj).2⟩, fun h' tk t' k' => ?_⟩
  rw [preSum_take ns _ (Nat.le_refl _), List.take_length]
  have kk : ∀ b o, s.heap.get? b = some o → h'.get? b = some o := fun b o e => k' b o (fun hb => by rw [hwr b hb] at e; cases e) (k b o e)
  exact ⟨.int ns.sum, H, by simp [VR], G.ext kk, .ext kk, h⟩

noncomputable def bestOf (bt : Int → Int → Bool) : List Int → Int
  | [] => 0
  | x :: xs => xs.foldl (fun b y => if bt y b then y else b) x

theorem argBest_val (bt : Int → Int → Bool) (ns : List Int) (x : Int) (xs : List Int) (e : ns = x :: xs) : ∀ k, k ≤ xs.length → ns.getD (argBest (fun i j => bt (ns.getD i 0) (ns.getD j 0)) k) 0 = (xs.take k).foldl (fun b y => if bt y b then y else b) x
  | 0, _ => by subst e; simp [argBest]
  | k + 1, h => by
    have ih := argBest_val bt ns x xs e k (by omega)
    rw [argBest, List.take_add_one]
    have hk : k < xs.length := by omega
    have e1 : ns.getD (k + 1) 0 = xs[k] := by subst e; simp [hk]
    simp only [hk, List.getElem?_eq_getElem, Option.toList_some, List.foldl_append, List.foldl_cons, List.foldl_nil]
    rw [← ih, ← e1]
    split <;> rfl

theorem cok_max {a : Addr} {ns : List Int} (hh : A.handled = none) (ha : H a = some (.lst (ns.map .int))) (hne : 0 < ns.length) (h : Q (.int (bestOf (fun x y => decide (x > y)) ns)) H) : COk c A (.builtin "max") [] [.ref a] H Q := by
  intro s rvs G rr
  obtain ⟨rv, rfl, r⟩ := rr.one
  refine call_max_walk (walk_ints (A := A.in1) hh G r (.inl ⟨a, rfl, ha⟩) fun s₂ I fp wr P St k ⟨h₂, e⟩ W st hfp hwr hP => ?_)
  subst e
  refine ⟨I, fp, wr, ns.length, P, St, _, rfl, W, st, hfp, hne, CmpOf.ints_gt (fun i => ns.getD i 0) hP, fun v h' tk hv k' => ?_⟩
  obtain ⟨t, rfl⟩ := hP _ _ hv
  have kk : ∀ b o, s.heap.get? b = some o → h'.get? b = some o := fun b o e => k' b o (fun hb => by rw [hwr b hb] at e; cases e) (k b o e)
  cases ns with
  | nil => simp at hne
  | cons x xs =>
    have := argBest_val (fun x y => decide (x > y)) (x :: xs) x xs rfl xs.length (Nat.le_refl _)
    refine ⟨.int (bestOf (fun x y => decide (x > y)) (x :: xs)), H, ?_, G.ext kk, .ext kk, h⟩
    simp only [VR, bestOf]
    refine ⟨t, ?_⟩
    rw [List.take_length] at this
    simp only [List.length_cons, Nat.add_sub_cancel]
    rw [this]
theorem cok_min {a : Addr} {ns : List Int} (hh : A.handled = none) (ha : H a = some (.lst (ns.map .int))) (hne : 0 < ns.length) (h : Q (.int (bestOf (fun x y => decide (x < y)) ns)) H) : COk c A (.builtin "min") [] [.ref a] H Q := by
  intro s rvs G rr
  obtain ⟨rv, rfl, r⟩ := rr.one
  refine call_min_walk (walk_ints (A := A.in1) hh G r (.inl ⟨a, rfl, ha⟩) fun s₂ I fp wr P St k ⟨h₂, e⟩ W st hfp hwr hP => ?_)
  subst e
  refine ⟨I, fp, wr, ns.length, P, St, _, rfl, W, st, hfp, hne, CmpOf.ints_lt (fun i => ns.getD i 0) hP, fun v h' tk hv k' => ?_⟩
  obtain ⟨t, rfl⟩ := hP _ _ hv
  have kk : ∀ b o, s.heap.get? b = some o → h'.get? b = some o := fun b o e => k' b o (fun hb => by rw [hwr b hb] at e; cases e) (k b o e)
  cases ns with
  | nil => simp at hne
  | cons x xs =>
    have := argBest_val (fun x y => decide (x < y)) (x :: xs) x xs rfl xs.length (Nat.le_refl _)
    refine ⟨.int (bestOf (fun x y => decide (x < y)) (x :: xs)), H, ?_, G.ext kk, .ext kk, h⟩
    simp only [VR, bestOf]
    refine ⟨t, ?_⟩
    rw [List.take_length] at this
    simp only [List.length_cons, Nat.add_sub_cancel]
    rw [this]

theorem cok_type {v : AV} {T : String} (hv : (∃ b, v = .bool b ∧ T = "bool") ∨ (∃ i, v = .int i ∧ T = "int")) (h : Q (.typ T) H) : COk c A (.type "type") [] [v] H Q := by
  intro s rvs G rr
  obtain ⟨rv, rfl, r⟩ := rr.one
  rcases hv with ⟨b, rfl, rfl⟩ | ⟨i, rfl, rfl⟩
  · simp only [VR] at r
    subst r
    exact call_type_of (Tx := "bool") rfl (by decide) ⟨.typ "bool", H, by simp [VR], G, .refl H s, h⟩
  · obtain ⟨t, rfl⟩ := ints_of r
    exact call_type_of (Tx := "int") rfl (by decide) ⟨.typ "int", H, by simp [VR], G, .refl H s, h⟩

/-! slices -/
noncomputable def PartOk (c : Cx) (A : Around) (env : Env) (e : Option Expr) (m : LM) (H : AH) (Q : Option Int → AH → Prop) : Prop :=
  ∀ s, GH c H s → GF c env m H s → wpAny (model c.prog c.w) A (evalPart e env) (fun v s' => ∃ k H', IsPart v k ∧ GH c H' s' ∧ Tr H s H' s' ∧ Q k H') NoE s
theorem part_none {Q : Option Int → AH → Prop} (h : Q none H) : PartOk c A env none m H Q := fun s G _ => by
  rw [evalPart_none]; exact wpAny_pure ⟨none, H, .none, G, .refl H s, h⟩
theorem part_some {e : Expr} {Q : Option Int → AH → Prop} (h : EOk c A env e m H fun v H₁ => ∃ i, v = .int i ∧ Q (some i) H₁) : PartOk c A env (some e) m H Q := fun s G F => by
  rw [evalPart_some]
  refine bind2 (h s G F) fun v s₁ hh => ?_
  obtain ⟨av, H₁, r, G₁, t, i, e, h₁⟩ := hh
  subst e
  obtain ⟨u, rfl⟩ := ints_of r
  exact ⟨some i, H₁, .int i u, G₁, t, h₁⟩

noncomputable def aslice (xs : List AV) (lo hi : Option Int) : List AV := (xs.drop (lo.elim 0 (clipAt xs.length))).take (hi.elim xs.length (clipAt xs.length) - lo.elim 0 (clipAt xs.length))

theorem eok_slice {o : Expr} {lower upper : Option Expr} {p pos : Pos} (h : EOk c A env o m H fun v H₁ => PartOk c A env lower m H₁ fun lo H₂ => PartOk c A env upper m H₂ fun hi H₃ =>
      ∃ a xs, v = .ref a ∧ H₃ a = some (.lst xs) ∧ xs.length ≤ sizeLine ∧ ∀ r, H₃ r = none → Q (.ref r) (upd H₃ r (.lst (aslice xs lo hi))))
    (ht : ∀ ov r, letTemporaryGo o ov r = pure () := by intro _ _; rfl) : EOk c A env (.Subscript o (.Slice lower upper none p) pos) m H Q := by
  intro s G F
  refine wpAny_Subscript_list_slice (bind2 (h s G F) fun va s₁ hh => ?_) ht
  obtain ⟨a, H₁, r₁, G₁, t₁, h₁⟩ := hh
  have F₁ := F.tr G t₁
  refine bind2 (h₁ s₁ G₁ F₁) fun vl s₂ hh => ?_
  obtain ⟨lo, H₂, r₂, G₂, t₂, h₂⟩ := hh
  have F₂ := F₁.tr G₁ t₂
  refine bind2 (h₂ s₂ G₂ F₂) fun vu s₃ hh => ?_
  obtain ⟨hi, H₃, r₃, G₃, t₃, l, xs, e, hl, hsz, hq⟩ := hh
  subst e
  simp only [VR] at r₁
  obtain ⟨vs, q, rs⟩ := G₃.lst hl
  refine ⟨l, vs.toArray, lo, hi, r₁, q.isList, by rw [List.size_toArray, rs.length]; exact hsz, r₂, r₃, ?_⟩
  have k := push_keeps s₃.heap { cls := .type "slice", data := .fields #[vl, vu, .none] }
  have G₄ : GH c H₃ { s₃ with heap := s₃.heap.push { cls := .type "slice", data := .fields #[vl, vu, .none] } } := G₃.ext (tk := s₃.toks) k
  have t₄ : Tr H s H₃ { s₃ with heap := s₃.heap.push { cls := .type "slice", data := .fields #[vl, vu, .none] } } := ((t₁.trans t₂).trans t₃).trans (.ext (tk := s₃.toks) k)
  have e : slicePick vs.toArray lo hi none = ((vs.drop (lo.elim 0 (clipAt xs.length))).take (hi.elim xs.length (clipAt xs.length) - lo.elim 0 (clipAt xs.length))).toArray := by
    rw [slicePick_plain]; simp only [List.size_toArray, rs.length]
  rw [e]
  have := Ends.newList (tk := s₃.toks) (Q := Q) G₄ t₄ (xs := aslice xs lo hi) (vs := (vs.drop (lo.elim 0 (clipAt xs.length))).take (hi.elim xs.length (clipAt xs.length) - lo.elim 0 (clipAt xs.length)))
    ((rs.drop _).take _ |>.kept fun a o _ _ e => k a o e) hq
  rw [show ({ s₃ with heap := s₃.heap.push { cls := .type "slice", data := .fields #[vl, vu, .none] } } : Shared).heap.objs.size = s₃.heap.objs.size + 1 from Heap.size_push ..] at this
  exact this

/-! append, del -/
theorem eok_append {o e : Expr} {apos pos : Pos} {pl : Sem Bool} (h : EOk c A env o m H fun v H₁ => ∃ a xs, v = .ref a ∧ H₁ a = some (.lst xs) ∧ EOk c A env e m H₁ fun x H₂ => ∃ ys, H₂ a = some (.lst ys) ∧ ys.length ≤ sizeLine ∧ Q .none (upd H₂ a (.lst (ys ++ [x]))))
    (he : eval (.Call (.Attribute o "append" apos) [e] [] pos) env = (do
      let ov ← eval o env
      standAt apos.atName
      let (f, first) ← holding [ov] (getMethod ov "append" pl)
      callWith pos f first (backTo pos (starEach [e] env)) []) := by rfl) (hp : plainArgs [e] = true := by rfl) :
    EOk c A env (.Call (.Attribute o "append" apos) [e] [] pos) m H Q := by
  intro s G F
  refine MethodCall_ (pl := pl) (bind2 (h s G F) fun va s₁ hh => ?_) he
  obtain ⟨v, H₁, r₁, G₁, t₁, a, xs, ev, hl, h₁⟩ := hh
  subst ev
  simp only [VR] at r₁
  subst r₁
  obtain ⟨vs, ⟨n, p⟩, rs⟩ := G₁.lst hl
  refine Calls.getMethod_list_append p rfl rfl ?_
  refine Calls.callWith_builtin (starAny pos _ (plainArgs_star hp)) ?_
  have es : EsOk c A env [e] m H₁ fun vs H₂ => ∃ x ys, vs = [x] ∧ H₂ a = some (.lst ys) ∧ ys.length ≤ sizeLine ∧ Q .none (upd H₂ a (.lst (ys ++ [x]))) :=
    esok_cons (h₁.mono fun x H₂ ⟨ys, q⟩ => esok_nil ⟨x, ys, rfl, q⟩) (plainArgs_star hp e List.mem_cons_self [] env)
  refine bind2 (args_ok hp G₁ (F.tr G t₁) es) fun ar s₂ hh => ?_
  obtain ⟨hk, avs, H₂, r₂, G₂, t₂, x, ys, e2, hl2, hsz, hq⟩ := hh
  subst e2
  obtain ⟨rx, e3, rx'⟩ := r₂.one
  rw [e3, hk]
  obtain ⟨ws, p2, rs2⟩ := G₂.lst hl2
  refine wpAny_list_append_plain p2 (fun h' p' hs => ?_) (by rw [List.size_toArray, rs2.length]; exact hsz)
  have kne : ∀ b ob, b ≠ a → s₂.heap.get? b = some ob → h'.get? b = some ob := hs.extBut
  have tkk : TupKept s₂.heap h' := fun b ob hc _ e => kne b ob (by
    rintro rfl
    obtain ⟨n', p2⟩ := p2
    rw [e] at p2; cases p2
    rcases hc with hc | hc <;> simp at hc) e
  refine ⟨.none, upd H₂ a (.lst (ys ++ [x])), by simp [VR], G₂.set (tk := s₂.toks) hl2 kne ⟨ws ++ [rx], by simpa using p', (rs2.append (by simp only [VRs]; exact ⟨rx, [], rfl, rx', rfl⟩)).kept tkk⟩, (t₁.trans t₂).trans (.set (tk := s₂.toks) hl2 kne), hq⟩

theorem eraseIdx_VRs {b h : Heap} : ∀ {xs : List AV} {vs : List Value} (k : Nat), VRs b h xs vs → VRs b h (xs.eraseIdx k) (vs.eraseIdx k)
  | [], _, k, e => by simp only [VRs] at e; subst e; simp [VRs]
  | x :: xs, _, 0, e => by
    simp only [VRs] at e
    obtain ⟨v, r, rfl, h1, h2⟩ := e
    simpa using h2
  | x :: xs, _, k + 1, e => by
    simp only [VRs] at e
    obtain ⟨v, r, rfl, h1, h2⟩ := e
    simp only [List.eraseIdx_cons_succ, VRs]
    exact ⟨v, _, rfl, h1, eraseIdx_VRs k h2⟩

theorem sok_del {o i : Expr} {pos p : Pos} {Q : AFl → LM → AH → Prop} (h : EOk c A env o m H fun v H₁ => EOk c A env i m H₁ fun w H₂ => ∃ a xs k, v = .ref a ∧ w = .int k ∧ H₂ a = some (.lst xs) ∧ 0 ≤ k ∧ k < xs.length ∧ xs.length ≤ sizeLine ∧ Q .next m (upd H₂ a (.lst (xs.eraseIdx k.toNat)))) :
    SOk c A env (exec (.Delete [.Subscript o i p] pos) env) m H Q := by
  intro s G F
  refine wpAny_Delete (wpAny_deleteEach_cons (wpAny_delete_Subscript (bind2 (h s G F) fun va s₁ hh => ?_)))
  obtain ⟨a, H₁, r₁, G₁, t₁, h₁⟩ := hh
  have F₁ := F.tr G t₁
  refine bind2 (h₁ s₁ G₁ F₁) fun vb s₂ hh => ?_
  obtain ⟨b, H₂, r₂, G₂, t₂, l, xs, k, e1, e2, hl, h0, hlt, hsz, hq⟩ := hh
  subst e1 e2
  simp only [VR] at r₁ r₂
  subst r₁
  obtain ⟨u, rfl⟩ := r₂
  obtain ⟨vs, pp, rs⟩ := G₂.lst hl
  have hlen := rs.length
  have hsl : sizeLine = 2 ^ 24 := rfl
  refine wpAny_delItem_plain (k := k.toNat) pp ?_ ?_ (fun h' p' hs => wpAny_deleteEach_nil ?_) (by rw [List.size_toArray, hlen]; exact hsz)
  · unfold Builtin.List.listFitsIndex; simp; omega
  · unfold seqIndex?
    simp only [show ¬ k < 0 by omega, if_false]
    rw [if_pos (by simp; omega)]
  · have kne : ∀ b ob, b ≠ l → s₂.heap.get? b = some ob → h'.get? b = some ob := hs.extBut
    have tkk : TupKept s₂.heap h' := fun b ob hc _ e => kne b ob (by
      rintro rfl
      obtain ⟨n', p2⟩ := pp
      rw [e] at p2; cases p2
      rcases hc with hc | hc <;> simp at hc) e
    have t := (t₁.trans t₂).trans (Tr.set (tk := s₂.toks) (o' := .lst (xs.eraseIdx k.toNat)) hl kne)
    have G₃ : GH c (upd H₂ l (.lst (xs.eraseIdx k.toNat))) { s₂ with heap := h', toks := s₂.toks } := by
      refine G₂.set hl kne ⟨vs.eraseIdx k.toNat, ?_, (eraseIdx_VRs _ rs).kept tkk⟩
      have : vs.toArray.eraseIdxIfInBounds k.toNat = (vs.eraseIdx k.toNat).toArray := by simp
      rw [← this]; exact p'
    exact ⟨.next, m, _, rfl, G₃, F.tr G t, t.s, hq⟩

/-! x, y = t -/
noncomputable def nameEx (p : Str × Pos) : Expr := .Name p.1 p.2
noncomputable def updMs (m : LM) : List Str → List AV → LM
  | x :: xs, v :: vs => updMs (updM m x v) xs vs
  | _, _ => m

theorem assignEach_cons (x : Str) (p : Pos) (r : List Expr) : assignEach (.Name x p :: r) env = (false, assign (.Name x p) env) :: assignEach r env := rfl
theorem assignEach_names (nps : List (Str × Pos)) : (assignEach (nps.map nameEx) env).length = nps.length ∧ (assignEach (nps.map nameEx) env).findIdx? (·.1) = none := by
  induction nps with
  | nil => exact ⟨rfl, rfl⟩
  | cons q r ih =>
    obtain ⟨x, p⟩ := q
    rw [List.map_cons, nameEx, assignEach_cons]
    exact ⟨by simp [ih.1], by simp [List.findIdx?_cons, ih.2]⟩

theorem GH.tupKept {s s' : Shared} {H' : AH} (G : GH c H s) (F : GF c env m H s) (t : TrS env H s H' s') : TupKept s.heap s'.heap := fun a o hc hd e => by
  have nH : H a = none := by
    cases hq : H a with
    | none => rfl
    | some ob => obtain ⟨o', e', n, _⟩ := (G.objs a ob hq).1.there; rw [e] at e'; cases e'; exact absurd hc n
  have nL : a ≠ env.locals := by
    rintro rfl
    obtain ⟨_, ⟨o', _, _, ho', hd', _⟩, _⟩ := F.ns
    rw [e] at ho'; cases ho'
    rcases hd with ⟨_, _, hd⟩ | ⟨_, hd⟩ <;> (rw [hd] at hd'; cases hd')
  have nC : ∀ z, env.cells.lookup z ≠ some a := fun z ez => by
    obtain ⟨_, _, _, o', ho', hd'⟩ := F.cells z a ez
    rw [e] at ho'; cases ho'
    rcases hd with ⟨_, _, hd⟩ | ⟨_, hd⟩ <;> (rw [hd] at hd'; cases hd')
  exact t.keep a o nH nL nC e

theorem assign_all (hk : env.scope.kind = .function) (nps : List (Str × Pos)) : ∀ {vs : List AV} {rvs : List Value} {m : LM} {s : Shared} {R : Unit → Shared → Prop}, (∀ x ∈ nps.map (·.1), Stores env x) → nps.length = vs.length → GH c H s → GF c env m H s → VRs c.b s.heap vs rvs →
    (∀ s', GH c H s' → GF c env (updMs m (nps.map (·.1)) vs) H s' → TrS env H s H s' → R () s') → wpAny (model c.prog c.w) A (assignInOrder ((assignEach (nps.map nameEx) env).map (·.2)) rvs) R NoE s := by
  induction nps with
  | nil =>
    intro vs rvs m s R _ hl G F r h
    cases vs with
    | nil => exact assignInOrder_nil (h s G F (Tr.refl H s).s)
    | cons _ _ => simp at hl
  | cons q rest ih =>
    obtain ⟨x, p⟩ := q
    intro vs rvs m s R hst hl G F r h
    cases vs with
    | nil => simp at hl
    | cons v vs =>
      simp only [VRs] at r
      obtain ⟨rv, rr, rfl, h1, h2⟩ := r
      rw [List.map_cons, nameEx, assignEach_cons, List.map_cons]
      refine assignInOrder_cons (wpAny_assign_Name (store_ok G F h1 hk (hst x List.mem_cons_self) fun h' tk G' F' t' => ?_))
      exact ih (fun y hy => hst y (List.mem_cons_of_mem _ hy)) (by simpa using hl) G' F' (h2.kept (G.tupKept F t')) fun s' G'' F'' t'' => h s' G'' F'' (t'.trans t'')

theorem sok_unpack {elts : List Expr} {k : Nat} {tp pos : Pos} {e : Expr} (nps : List (Str × Pos)) {Q : AFl → LM → AH → Prop} (hh : A.handled = none) (h : EOk c A env e m H fun v H₁ => ∃ vs, v = .tup vs ∧ vs.length = nps.length ∧ Q .next (updMs m (nps.map (·.1)) vs) H₁)
    (hx : elts = nps.map nameEx) (hst : ∀ x ∈ nps.map (·.1), Stores env x) (hk : env.scope.kind = .function := by rfl)
    (hs : swapsWithSole [.Tuple elts k tp] e pos.line env = pure false := by rfl) (hw : swappedStores [.Tuple elts k tp] e env = pure none := by rfl) : SOk c A env (exec (.Assign [.Tuple elts k tp] e pos) env) m H Q := by
  intro s G F
  refine Assign_Tuple (bind2 (h s G F) fun rv s₁ hh => ?_) hs hw
  obtain ⟨v, H₁, r₁, G₁, t₁, vs, ev, hl, hq⟩ := hh
  subst ev
  simp only [VR] at r₁
  obtain ⟨t, rvs, rfl, ht, rs⟩ := r₁
  subst hx
  obtain ⟨a1, a2⟩ := assignEach_names (env := env) nps
  refine assign_Tuple_tuple hh ht (by rw [a1, List.size_toArray, rs.length, hl]) a2 fun h' he => ?_
  have k : ∀ a o, s₁.heap.get? a = some o → h'.get? a = some o := fun a o e => he a o (Nat.ne_of_lt (Heap.lt_size e)) e
  have G₂ : GH c H₁ { s₁ with heap := h', toks := s₁.toks } := G₁.ext k
  have F₁ := F.tr G t₁
  have F₂ : GF c env m H₁ { s₁ with heap := h', toks := s₁.toks } := F₁.tr G₁ (.ext k)
  refine assign_all hk nps hst hl.symm G₂ F₂ (rs.kept fun a o _ _ e => k a o e) fun s' G' F' t' => ?_
  exact ⟨.next, _, H₁, rfl, G', F', (t₁.s.trans (Tr.ext (tk := s₁.toks) k).s).trans t', hq⟩

/-! lists compared, in -/
theorem readsAll_ints {b h : Heap} : ∀ {ns : List Int} {vs : List Value}, VRs b h (ns.map .int) vs → ReadsAll h vs (ns.map .int) []
  | [], _, e => by simp only [List.map_nil, VRs] at e; subst e; exact .nil
  | n :: ns, _, e => by
    simp only [List.map_cons, VRs] at e
    obtain ⟨v, r, rfl, h1, h2⟩ := e
    simp only [VR] at h1
    obtain ⟨t, rfl⟩ := h1
    exact ReadsAll.cons (as := []) (bs := []) (.int n t) (readsAll_ints h2)
theorem readsAll_bools {b h : Heap} : ∀ {ns : List Bool} {vs : List Value}, VRs b h (ns.map .bool) vs → ReadsAll h vs (ns.map .bool) []
  | [], _, e => by simp only [List.map_nil, VRs] at e; subst e; exact .nil
  | n :: ns, _, e => by
    simp only [List.map_cons, VRs] at e
    obtain ⟨v, r, rfl, h1, h2⟩ := e
    simp only [VR] at h1
    subst h1
    exact ReadsAll.cons (as := []) (bs := []) (.bool n) (readsAll_bools h2)
theorem eqvAll_ints : ∀ (ns ks : List Int), PyData.eqvAll (ns.map .int) (ks.map .int) = decide (ns = ks)
  | [], [] => rfl
  | [], k :: ks => by simp [PyData.eqvAll]
  | n :: ns, [] => by simp [PyData.eqvAll]
  | n :: ns, k :: ks => by
    simp only [List.map_cons, PyData.eqvAll, PyData.eqv, eqvAll_ints ns ks]
    by_cases h : n = k <;> simp [h]
theorem eqvAll_bools : ∀ (ns ks : List Bool), PyData.eqvAll (ns.map .bool) (ks.map .bool) = decide (ns = ks)
  | [], [] => rfl
  | [], k :: ks => by simp [PyData.eqvAll]
  | n :: ns, [] => by simp [PyData.eqvAll]
  | n :: ns, k :: ks => by
    simp only [List.map_cons, PyData.eqvAll, PyData.eqv, eqvAll_bools ns ks]
    by_cases h : n = k <;> simp [h]
theorem canLay_ints : ∀ ns : List Int, PyData.canLayAll0 (ns.map .int) = true
  | [] => rfl
  | _ :: ns => by simp [PyData.canLayAll0, PyData.canLay0, canLay_ints ns]
theorem canLay_bools : ∀ ns : List Bool, PyData.canLayAll0 (ns.map .bool) = true
  | [] => rfl
  | _ :: ns => by simp [PyData.canLayAll0, PyData.canLay0, canLay_bools ns]
theorem depth_ints : ∀ ns : List Int, PyData.depthAll (ns.map .int) = 0
  | [] => rfl
  | _ :: ns => by simp [PyData.depthAll, PyData.depth, depth_ints ns]
theorem depth_bools : ∀ ns : List Bool, PyData.depthAll (ns.map .bool) = 0
  | [] => rfl
  | _ :: ns => by simp [PyData.depthAll, PyData.depth, depth_bools ns]

theorem cmp_ne_ints {a b : Addr} {ns ks : List Int} (ha : H a = some (.lst (ns.map .int))) (hb : H b = some (.lst (ks.map .int))) (hu : A.units + 1 < cLine) (h : Q (.bool (!decide (ns = ks))) H) : CmpOk c A .NotEq (.ref a) (.ref b) H Q := fun s ra rb G x y => by
  simp only [VR] at x y
  subst x y
  obtain ⟨vs, ⟨n, p1⟩, r1⟩ := G.lst ha
  obtain ⟨ws, ⟨n', p2⟩, r2⟩ := G.lst hb
  refine SeqAt.compareNe_reads (da := .list (ns.map .int)) (db := .list (ks.map .int)) (.list p1 rfl rfl (readsAll_ints r1)) (.list p2 rfl rfl (readsAll_ints r2)) (canLay_ints ns) (canLay_ints ks) ?_ ?_
  · simp only [PyData.depth, depth_ints]; omega
  · simp only [PyData.eqv, eqvAll_ints]; exact ends_bool G h
theorem cmp_ne_bools {a b : Addr} {ns ks : List Bool} (ha : H a = some (.lst (ns.map .bool))) (hb : H b = some (.lst (ks.map .bool))) (hu : A.units + 1 < cLine) (h : Q (.bool (!decide (ns = ks))) H) : CmpOk c A .NotEq (.ref a) (.ref b) H Q := fun s ra rb G x y => by
  simp only [VR] at x y
  subst x y
  obtain ⟨vs, ⟨n, p1⟩, r1⟩ := G.lst ha
  obtain ⟨ws, ⟨n', p2⟩, r2⟩ := G.lst hb
  refine SeqAt.compareNe_reads (da := .list (ns.map .bool)) (db := .list (ks.map .bool)) (.list p1 rfl rfl (readsAll_bools r1)) (.list p2 rfl rfl (readsAll_bools r2)) (canLay_bools ns) (canLay_bools ks) ?_ ?_
  · simp only [PyData.depth, depth_bools]; omega
  · simp only [PyData.eqv, eqvAll_bools]; exact ends_bool G h
theorem cmp_in_tup {i : Int} {ns : List Int} (hu : A.units + 1 < cLine) (h : Q (.bool (ns.any fun k => k == i)) H) : CmpOk c A .In (.int i) (.tup (ns.map .int)) H Q := fun s ra rb G x y => by
  obtain ⟨t, rfl⟩ := ints_of x
  simp only [VR] at y
  obtain ⟨a, vs, rfl, ⟨o, ho, hc, n, hd⟩, rs⟩ := y
  refine SeqAt.in_tuple_reads (xs := ns.map .int) (d := .int i) (.tuple ho hc hd (readsAll_ints rs)) (.int i t) (canLay_ints ns) rfl ?_ ?_
  · simp only [depth_ints, PyData.depth]; omega
  · have : ((ns.map PyData.int).any fun y => PyData.eqv y (.int i)) = ns.any fun k => k == i := by
      rw [List.any_map]; rfl
    rw [this]; exact ends_bool G h
end
end Mine
namespace Mine
open PySem PySem.W PySem.Calls PyProof.Rows

theorem ER.get {b h : Heap} {name : Str} : ∀ {fs : List (Str × AV)} {es : List DictEntry}, ER b h fs es →
    match fs.lookup name with
    | some v => ∃ rv, getL name es = some (some rv) ∧ VR b h v rv
    | none => getL name es = some none := by
  have key : ∀ {fs : List (Str × AV)} {es : List DictEntry}, ER b h fs es → es.any (·.refKey) = false ∧ (match fs.lookup name with
    | some v => ∃ e, es.find? (·.key.isStr name) = some e ∧ VR b h v e.val
    | none => es.find? (·.key.isStr name) = none) := by
    intro fs
    induction fs with
    | nil => intro es e; simp only [ER] at e; subst e; exact ⟨rfl, rfl⟩
    | cons f fs ih =>
      obtain ⟨n, x⟩ := f
      intro es e
      simp only [ER] at e
      obtain ⟨e', r, t, rfl, hk, hv, hr⟩ := e
      obtain ⟨i1, i2⟩ := ih hr
      refine ⟨by rw [List.any_cons, i1]; simp [DictEntry.refKey, hk], ?_⟩
      rw [List.lookup_cons]
      by_cases hn : name = n
      · subst hn
        simp only [beq_self_eq_true, List.find?_cons, hk, Value.isStr]
        exact ⟨e', rfl, hv⟩
      · have h1 : (name == n) = false := by simpa using hn
        have h2 : (n == name) = false := by simpa using fun q : n = name => hn q.symm
        simp only [h1, List.find?_cons, hk, Value.isStr, h2]
        exact i2
  intro fs es e
  obtain ⟨i1, i2⟩ := key e
  unfold getL
  cases q : fs.lookup name with
  | some v =>
    rw [q] at i2
    obtain ⟨e', h1, h2⟩ := i2
    exact ⟨e'.val, by rw [h1], h2⟩
  | none =>
    rw [q] at i2
    simp only at i2 ⊢
    rw [i2, i1]
    simp

noncomputable def putF (name : Str) (v : AV) : List (Str × AV) → List (Str × AV)
  | [] => [(name, v)]
  | (n, x) :: r => if n = name then (n, v) :: r else (n, x) :: putF name v r

theorem putF_length (name : Str) (v : AV) : ∀ fs : List (Str × AV), (putF name v fs).length ≤ fs.length + 1
  | [] => by simp [putF]
  | (n, x) :: fs => by
    have := putF_length name v fs
    simp only [putF]; split <;> simp <;> omega
theorem ER.put {b h : Heap} {name : Str} {v : AV} {rv : Value} {hsh : Int} {tk : Tok} (r : VR b h v rv) : ∀ {fs : List (Str × AV)} {es : List DictEntry}, ER b h fs es → ER b h (putF name v fs) (putL name hsh (.str name tk) rv es)
  | [], es, e => by
    simp only [ER] at e
    subst e
    simp only [putF, putL, ER]
    exact ⟨_, [], tk, rfl, rfl, r, rfl⟩
  | (n, x) :: fs, es, e => by
    simp only [ER] at e
    obtain ⟨e', r', t, rfl, hk, hv, hr⟩ := e
    by_cases hn : n = name
    · subst hn
      simp only [putF, if_true, putL, hk, Value.isStr, beq_self_eq_true, ER]
      exact ⟨_, r', t, rfl, rfl, r, hr⟩
    · have h2 : (n == name) = false := by simpa using hn
      simp only [putF, if_neg hn, putL, hk, Value.isStr, h2, Bool.false_eq_true, if_false, ER]
      exact ⟨e', _, t, rfl, hk, hv, ER.put r hr⟩
theorem ER.length {b h : Heap} : ∀ {fs : List (Str × AV)} {es : List DictEntry}, ER b h fs es → es.length = fs.length
  | [], es, e => by simp only [ER] at e; subst e; rfl
  | (n, x) :: fs, es, e => by
    simp only [ER] at e
    obtain ⟨e', r', t, rfl, hk, hv, hr⟩ := e
    simp [ER.length hr]

/-- what the text's top gives -/
structure TopK (c : Cx) (K : Frag) : Prop where
  x : K.In c.b

section
variable {c : Cx} {A : Around} {env : Env} {m : LM} {H : AH} {Q : AV → AH → Prop} {K : Frag}

theorem GH.inst {s : Shared} (G : GH c H s) {a C d : Addr} {fs : List (Str × AV)} (ha : H a = some (.inst C d)) (hd : H d = some (.dict fs)) :
    ∃ es n, InstAt s.heap a ⟨.ref C, some d, .plain, #[]⟩ C (some (dictOf es n)) ∧ s.heap.get? d = some (dictOf es n) ∧ ER c.b s.heap fs es := by
  have h1 := (G.objs a _ ha).1
  obtain ⟨es, n, h2, h3⟩ := (G.objs d _ hd).1
  exact ⟨es, n, ⟨h1, rfl, rfl, h2⟩, h2, h3⟩

/-- a value that may be handed on -/
theorem VR.handed {b h : Heap} {v : AV} {rv : Value} (r : VR b h v rv) : handedIn rv = true := by
  cases v <;> simp only [VR] at r
  · subst r; rfl
  · subst r; rfl
  · obtain ⟨_, rfl⟩ := r; rfl
  · subst r; rfl
  · subst r; rfl
  · obtain ⟨_, _, rfl, _⟩ := r; rfl
  · obtain ⟨_, _, _, _, _, rfl, _⟩ := r; rfl
  · obtain ⟨_, _, rfl, _⟩ := r; rfl

/-- a class whose objects are plain -/
structure ClsOk (K : Frag) (C : Addr) (names : List Str) : Prop where
  ga : findIn K (.ref C) "__getattribute__" = some (some (.builtin "object.__getattribute__"))
  gt : findIn K (.ref C) "__getattr__" = some none
  hd : hasDictIn K C = true
  attr : ∀ n ∈ names, ∃ a, findIn K (.ref C) n = some a ∧ noGet K a = true
  sa : findIn K (.ref C) "__setattr__" = some (some (.builtin "object.__setattr__"))
  po : plainOver K C = true
  tk : ∀ n ∈ names, takerIn K C n = some none

theorem eok_attr {o : Expr} {name : Str} {pos : Pos} {names : List Str} (X : K.In c.b) (h : EOk c A env o m H fun v H₁ => ∃ a C d fs x, v = .ref a ∧ ClsOk K C names ∧ name ∈ names ∧ H₁ a = some (.inst C d) ∧ H₁ d = some (.dict fs) ∧ fs.lookup name = some x ∧ Q x H₁)
    (he : eval (.Attribute o name pos) env = (do
      let ov ← eval o env
      standAt pos.atName
      let r ← holding [ov] (getAttr ov name true)
      letTemporaryGo o ov r
      pure r) := by with_unfolding_all rfl) : EOk c A env (.Attribute o name pos) m H Q := by
  intro s G F
  refine Attribute_any_ (bind2 (h s G F) fun va s₁ hh => ?_) he
  obtain ⟨v, H₁, r₁, G₁, t₁, a, C, d, fs, x, ev, CK, hn, ha, hd, hx, hq⟩ := hh
  subst ev
  simp only [VR] at r₁
  subst r₁
  obtain ⟨es, n, I, _, er⟩ := G₁.inst ha hd
  have g := er.get (name := name)
  rw [hx] at g
  obtain ⟨rv, g1, g2⟩ := g
  obtain ⟨at', ha1, ha2⟩ := CK.attr name hn
  refine get_value (X.keeps G₁.keep) I CK.ga (findObj_own CK.hd ha1 ha2 (by rw [lookIn_dict]; exact g1)) g2.handed ?_
  exact ⟨x, H₁, g2, ⟨G₁.objs, G₁.keep, G₁.bare⟩, ⟨t₁.keep, t₁.dom, t₁.os⟩, hq⟩

theorem setAttr_ok {s : Shared} {a C d : Addr} {fs : List (Str × AV)} {name : Str} {names : List Str} {v : AV} {rv : Value} {R : Unit → Shared → Prop} (X : K.In c.b) (CK : ClsOk K C names) (hn : name ∈ names) (G : GH c H s) (ha : H a = some (.inst C d)) (hd : H d = some (.dict fs)) (r : VR c.b s.heap v rv) (hz : fs.length < 900)
    (h : ∀ h' tk, GH c (upd H d (.dict (putF name v fs))) { s with heap := h', toks := tk } → Tr H s (upd H d (.dict (putF name v fs))) { s with heap := h', toks := tk } → R () { s with heap := h', toks := tk }) :
    wpAny (model c.prog c.w) A (setAttr (.ref a) name rv) R NoE s := by
  obtain ⟨es, n, I, D, er⟩ := G.inst ha hd
  have XX := X.keeps G.keep
  refine set_plain XX I CK.sa ?_
  refine osa_open (s := { s with toks := s.toks + 1 }) XX I CK.po (CK.tk name hn) fun b => ?_
  obtain ⟨cd, hc, hd'⟩ := any_some CK.hd
  obtain ⟨hx, -, -, -⟩ := I
  dsimp only
  refine wpAny_bind (wpAny_pure (wpAny_bind (wpAny_bind (wpAny_loadPart (s := { s with toks := s.toks + 1 }) hx (wpAny_bind ((looks_clsIn XX hc).here (s := { s with toks := s.toks + 1 }) ?_))))))
  rw [hd']
  refine wpAny_pure (a := some d) (wpAny_bind (wpAny_pure (wpAny_bind ?_)))
  unfold nsSet
  refine wpAny_bind (wpAny_bind (wpAny_askSetting (wpAny_pure (wpAny_bind (wpAny_mkText (wpAny_bind (wpAny_loadPart (o := dictOf es n) D ?_)))))))
  have noref : (!(List.toArray es).any (·.key.isStr name) && (List.toArray es).any (·.refKey)) = false := by
    have : (List.toArray es).any (·.refKey) = false := by
      have g := er.get (name := name)
      rw [← Array.any_toList]
      have key : ∀ {fs : List (Str × AV)} {es : List DictEntry}, ER c.b s.heap fs es → es.any (·.refKey) = false := by
        intro fs
        induction fs with
        | nil => intro es e; simp only [ER] at e; subst e; rfl
        | cons f fs ih =>
          obtain ⟨n, x⟩ := f
          intro es e
          simp only [ER] at e
          obtain ⟨e', r, t, rfl, hk, hv, hr⟩ := e
          rw [List.any_cons, ih hr]; simp [DictEntry.refKey, hk]
      simpa using key er
    rw [this, Bool.and_false]
  dsimp only
  rw [aRefKeyMayBeTheName_at, noref]
  refine wpAny_updatePart (o := dictOf es n) D ?_
  have e1 := putName_dict name (PyData.keyHash c.w.params name) (.str name (s.toks + 1)) rv es n
  have D' : (s.heap.update d (Obj.putName name (PyData.keyHash c.w.params name) (.str name (s.toks + 1)) rv)).get? d = some (dictOf (putL name (PyData.keyHash c.w.params name) (.str name (s.toks + 1)) rv es) (putN name es n)) := by
    rw [Heap.get?_update_self _ D (by rw [e1]; rfl), e1]
  have hlen : (putL name (PyData.keyHash c.w.params name) (.str name (s.toks + 1)) rv es).length ≤ 1000 := by
    have := (er.put (name := name) (v := v) (hsh := PyData.keyHash c.w.params name) (tk := s.toks + 1) r).length
    rw [this]
    have := putF_length name v fs
    omega
  refine wpAny_bind (wpAny_lookBehind D' (pastItsLine_dict (by rw [List.size_toArray, sizeLine_eq]; omega)) (wpAny_pure ?_))
  have kne : ∀ b ob, b ≠ d → s.heap.get? b = some ob → (s.heap.update d (Obj.putName name (PyData.keyHash c.w.params name) (.str name (s.toks + 1)) rv)).get? b = some ob := fun b ob hb e => (Heap.get?_update_other _ _ (Ne.symm hb)).trans e
  have tkk : TupKept s.heap (s.heap.update d (Obj.putName name (PyData.keyHash c.w.params name) (.str name (s.toks + 1)) rv)) := fun b ob hc _ e => kne b ob (by
    rintro rfl
    rw [e] at D; cases D
    rcases hc with hc | hc <;> simp at hc) e
  exact h _ _ (G.set hd kne ⟨_, _, D', (er.put r).kept tkk⟩) (.set hd kne)

theorem sok_setattr {o : Expr} {name : Str} {ap pos : Pos} {e : Expr} {names : List Str} {Q : AFl → LM → AH → Prop} (X : K.In c.b)
    (h : EOk c A env e m H fun v H₁ => EOk c A env o m H₁ fun w H₂ => ∃ a C d fs, w = .ref a ∧ ClsOk K C names ∧ name ∈ names ∧ H₂ a = some (.inst C d) ∧ H₂ d = some (.dict fs) ∧ fs.length < 900 ∧ Q .next m (upd H₂ d (.dict (putF name v fs))))
    (hs : swapsWith e (some (.Attribute o name ap)) pos.line env = pure false := by rfl) : SOk c A env (exec (.Assign [.Attribute o name ap] e pos) env) m H Q := by
  intro s G F
  refine plainObj_wpAny_Assign_Attribute (bind2 (h s G F) fun rv s₁ hh => ?_) hs
  obtain ⟨v, H₁, r₁, G₁, t₁, h₁⟩ := hh
  have F₁ := F.tr G t₁
  refine bind2 (h₁ s₁ G₁ F₁) fun rw' s₂ hh => ?_
  obtain ⟨w, H₂, r₂, G₂, t₂, a, C, d, fs, ew, CK, hn, ha, hd, hz, hq⟩ := hh
  subst ew
  simp only [VR] at r₂
  subst r₂
  refine setAttr_ok X CK hn G₂ ha hd (r₁.kept (t₂.tup G₁)) hz fun h' tk G' t' => ?_
  have t := (t₁.trans t₂).trans t'
  exact ⟨.next, m, _, rfl, G', F.tr G t, t.s, hq⟩

/-- a method of the text's own -/
theorem eok_meth {o : Expr} {name : Str} {apos pos : Pos} {es : List Expr} {names : List Str} {pl : Sem Bool} (X : K.In c.b)
    (h : EOk c A env o m H fun v H₁ => ∃ a C d fs f fd ob, v = .ref a ∧ ClsOk K C names ∧ H₁ a = some (.inst C d) ∧ H₁ d = some (.dict fs) ∧ fs.lookup name = none ∧ findIn K (.ref C) name = some (some (.ref f)) ∧ typeIn K (.ref f) = some (.type "function") ∧ c.b.get? f = some ob ∧ ob.data = .func fd ∧
      (match es with
      | [] => COk c A (.ref f) [.ref a] [] H₁ Q
      | e :: es => EsOk c A env (e :: es) m H₁ fun vs H₂ => COk c A (.ref f) [.ref a] vs H₂ Q))
    (he : eval (.Call (.Attribute o name apos) es [] pos) env = (do
      let ov ← eval o env
      standAt apos.atName
      let (f, first) ← holding [ov] (getMethod ov name pl)
      callWith pos f first (backTo pos (starEach es env)) []) := by rfl) (hp : plainArgs es = true := by rfl) :
    EOk c A env (.Call (.Attribute o name apos) es [] pos) m H Q := by
  intro s G F
  refine MethodCall_ (pl := pl) (bind2 (h s G F) fun va s₁ hh => ?_) he
  obtain ⟨v, H₁, r₁, G₁, t₁, a, C, d, fs, f, fd, ob, ev, CK, ha, hd, hx, hf, hty, hob, hfd, hq⟩ := hh
  subst ev
  simp only [VR] at r₁
  subst r₁
  obtain ⟨ens, n, I, _, er⟩ := G₁.inst ha hd
  have g := er.get (name := name)
  rw [hx] at g
  refine method_fn (X.keeps G₁.keep) I CK.ga CK.gt hf hty ?_ ?_
  · show (lookIn name (dictOf ens n)).map _ = _
    rw [lookIn_dict, g]; rfl
  · cases es with
    | nil =>
      refine Calls.callWith_function (o := ob) (fd := fd) (evalArgs_nil3 ⟨⟨G₁.keep _ _ hob, hfd⟩, ?_⟩)
      exact bind2 (hq s₁ [] G₁ rfl) fun v s₂ e => .after t₁ e
    | cons e es =>
      refine Calls.callWith_function (o := ob) (fd := fd) (bind2 (args_ok hp G₁ (F.tr G t₁) hq) fun ar s₂ ⟨hk, avs, H₂, r, G₂, t₂, h₂⟩ => ⟨⟨G₂.keep _ _ hob, hfd⟩, ?_⟩)
      exact h₂.use hk r G₂ (t₁.trans t₂)

/-- an object is made -/
theorem eok_make {x : Str} {p pos : Pos} {C fI : Addr} {e : Expr} {es : List Expr} (X : K.In c.b) (g : GName c env x (.ref C)) (hm : makesIn K C = true) (hi : findIn K (.ref C) "__init__" = some (some (.ref fI))) (hf : typeIn K (.ref fI) = some (.type "function")) (hk : keepIn K (.ref C) = true)
    (h : EsOk c A env (e :: es) m H fun vs H₁ => ∀ a d, H₁ a = none → H₁ d = none → a ≠ d → ∀ rvs, CodeOk c (A.under (.builtin "type.__call__" ⟨.ref C :: rvs, []⟩)) (.ref fI) [.ref a] vs (upd (upd H₁ d (.dict [])) a (.inst C d)) fun v H₂ => v = .none ∧ Q (.ref a) H₂)
    (hp : plainArgs (e :: es) = true := by rfl) : EOk c A env (.Call (.Name x p) (e :: es) [] pos) m H Q := by
  intro s G F
  refine wpAny_Call_NameR (gname g G (callWith_of (P := K.In) (by rw [starAny pos _ (plainArgs_star hp)]; rfl) (keeps_K hk) (bind2 (args_ok hp G F h) fun ar s₁ ⟨hkw, avs, H₁, r, G₁, t₁, h₁⟩ => ⟨X.keeps G₁.keep, ?_⟩)))
  rw [hkw]
  refine wpAny_call ?_
  obtain ⟨hh, gg, dd, tt, oo⟩ := s₁
  have XX := X.keeps G₁.keep
  refine make_core (makes_of XX hm) (looks_findIn XX hi) (fun self => bind_fn XX self hf) (.inl rfl) ?_
  have k1 := push_keeps hh emptyDict
  have k2 : ∀ b o, hh.get? b = some o → ((hh.push emptyDict).push (instObj C hh.objs.size)).get? b = some o := fun b o e => Heap.get?_push_of_some _ (k1 b o e)
  have n1 : H₁ hh.objs.size = none := G₁.none_of_new (get_size hh)
  have sz : (hh.push emptyDict).objs.size = hh.objs.size + 1 := Heap.size_push ..
  have gn2 : hh.get? (hh.objs.size + 1) = none := by
    cases hq : hh.get? (hh.objs.size + 1) with
    | none => rfl
    | some o => exact absurd (Heap.lt_size hq) (Nat.not_lt.mpr (Nat.le_succ _))
  have n2 : H₁ (hh.objs.size + 1) = none := G₁.none_of_new gn2
  have e1 : ((hh.push emptyDict).push (instObj C hh.objs.size)).get? hh.objs.size = some emptyDict := Heap.get?_push_of_some _ (Heap.get?_push_size _ rfl)
  have e2 : ((hh.push emptyDict).push (instObj C hh.objs.size)).get? (hh.objs.size + 1) = some (instObj C hh.objs.size) := by
    rw [← sz]; exact Heap.get?_push_size _ rfl
  have G₂ : GH c (upd (upd H₁ hh.objs.size (.dict [])) (hh.objs.size + 1) (.inst C hh.objs.size)) ⟨(hh.push emptyDict).push (instObj C hh.objs.size), gg, dd, tt, oo⟩ := by
    refine ⟨fun y oy ey => ?_, fun b o e => k2 b o (G₁.keep b o e), G₁.bare⟩
    by_cases hy : y = hh.objs.size + 1
    · subst hy
      rw [upd_self] at ey; cases ey
      exact ⟨e2, G₁.base_none gn2⟩
    · rw [upd_ne hy] at ey
      by_cases hy2 : y = hh.objs.size
      · subst hy2
        rw [upd_self] at ey; cases ey
        exact ⟨⟨[], 0, e1, rfl⟩, G₁.base_none (get_size hh)⟩
      · rw [upd_ne hy2] at ey
        exact ⟨(G₁.objs y oy ey).1.kept (fun b o _ _ e => k2 b o e) (k2 y), (G₁.objs y oy ey).2⟩
  have t₂ : Tr H₁ ⟨hh, gg, dd, tt, oo⟩ (upd (upd H₁ hh.objs.size (.dict [])) (hh.objs.size + 1) (.inst C hh.objs.size)) ⟨(hh.push emptyDict).push (instObj C hh.objs.size), gg, dd, tt, oo⟩ :=
    ⟨fun b o _ e => k2 b o e, fun b o hb e => by
      rw [upd_ne (by rintro rfl; rw [gn2] at e; cases e), upd_ne (by rintro rfl; rw [show (⟨hh, gg, dd, tt, oo⟩ : Shared).heap = hh from rfl, get_size] at e; cases e)]; exact hb, rfl⟩
  have body := h₁ (hh.objs.size + 1) hh.objs.size n2 n1 (Nat.succ_ne_self _) ar.pos _ ar.pos G₂ (r.kept fun b o _ _ e => k2 b o e)
  refine codeAny_mono body fun res s' z => ?_
  rcases res with er | (_ | _ | _ | v)
  · exact z.elim
  · exact z.elim
  · exact z.elim
  · exact z.elim
  · obtain ⟨av, H', rv, G', t', ev, q⟩ := z
    subst ev
    simp only [VR] at rv
    subst rv
    exact ⟨rfl, .ref (hh.objs.size + 1), H', rfl, G', (t₁.trans t₂).trans t', q⟩
end
end Mine
namespace Mine
open PySem PySem.W PySem.Calls PyProof.Rows

section
variable {c : Cx} {A : Around} {env : Env} {m : LM} {H : AH}

/-- a change of a namespace apart -/
theorem ns_set {s : Shared} {C : Addr} {h' : Heap} {tk : Nat} {mr : Str → Option Value} (G : GH c H s) (F : GF c env m H s) (P : Apart c env H C) (hn : s.heap.Ns C mr) (hs : Heap.SameBut C s.heap h') :
    GH c H { s with heap := h', toks := tk } ∧ GF c env m H { s with heap := h', toks := tk } ∧ TupKept s.heap h' := by
  obtain ⟨oC, es, ep, hoC, hdC, _⟩ := hn
  have hs := hs.extBut
  have tk' : TupKept s.heap h' := fun a ob _ hd e => hs a ob (by
    rintro rfl
    rw [hoC] at e; cases e
    rcases hd with ⟨_, _, hd⟩ | ⟨_, hd⟩ <;> (rw [hd] at hdC; cases hdC)) e
  refine ⟨⟨fun a ob e => ⟨(G.objs a ob e).1.kept tk' fun x => hs a x (by rintro rfl; rw [P.h] at e; cases e), (G.objs a ob e).2⟩, fun a ob e => hs a ob (by rintro rfl; rw [P.b] at e; cases e) (G.keep a ob e), G.bare⟩, ?_, tk'⟩
  obtain ⟨mr, ⟨oL, es, ep, hoL, r⟩, hv⟩ := F.ns
  refine ⟨F.own, F.new, fun y cc e => ?_, mr, ⟨oL, es, ep, hs _ _ (Ne.symm P.l) hoL, r⟩, fun y w e => ?_⟩
  · obtain ⟨h1, h2, v, oc, h3, h4⟩ := F.cells y cc e
    exact ⟨h1, h2, v, oc, hs _ _ (by rintro rfl; exact P.cells y e) h3, h4⟩
  · rcases hv y w e with ⟨h1, rv, h2, h3⟩ | ⟨h1, cc, rv, h2, ⟨oc, h4, h5⟩, h6⟩
    · exact .inl ⟨h1, rv, h2, h3.kept tk'⟩
    · exact .inr ⟨h1, cc, rv, h2, ⟨oc, hs _ _ (by rintro rfl; exact P.cells y h2) h4, h5⟩, h6.kept tk'⟩

/-- the tests of a clause -/
noncomputable def TestsOk (c : Cx) (A : Around) (env : Env) (ifs : List Expr) (m : LM) (H : AH) (Q : Bool → AH → Prop) : Prop :=
  ∀ s, GH c H s → GF c env m H s → wpAny (model c.prog c.w) A (forIn ifs true fun e r => if r = true then do let ok ← isTrue e env (eval e env); pure (ForInStep.yield ok) else pure (ForInStep.yield r)) (fun b s' => ∃ H', GH c H' s' ∧ Tr H s H' s' ∧ Q b H') NoE s
theorem tests_nil {Q : Bool → AH → Prop} (h : Q true H) : TestsOk c A env [] m H Q := fun s G _ => by
  rw [List.forIn_nil]; exact wpAny_pure ⟨H, G, .refl H s, h⟩
theorem tests_one {e : Expr} {Q : Bool → AH → Prop} (h : TOk c A env e m H Q) : TestsOk c A env [e] m H Q := fun s G F => by
  rw [List.forIn_cons]
  refine wpAny_bind ?_
  rw [if_pos rfl]
  refine wpAny_bind (bind2 (h s G F) fun b s₁ x => wpAny_pure ?_)
  show wpAny _ _ (forIn [] b _) _ _ _
  rw [List.forIn_nil]
  exact wpAny_pure x

/-- what a comprehension's block sees -/
noncomputable def clM (cl : List (Str × Addr)) (m : LM) : LM := fun y => if (cl.lookup y).isSome then m y else none

structure Clos (env : Env) (scope : Scope) (cl : List (Str × Addr)) (x : Str) : Prop where
  clos : closureFor scope env = pure cl
  cell : ∀ y ∈ scope.names, y.2 ≠ .cell
  kind : scope.kind = .function
  names : ∀ y ∈ scope.names, y.2 = .local → scope.names.lookup y.1 = some .local
  var : scope.names.lookup x = some .local
  sub : ∀ y cc, cl.lookup y = some cc → env.cells.lookup y = some cc
  kinds : ∀ y cc, cl.lookup y = some cc → (relabel scope env).names.lookup y = some .cell ∨ (relabel scope env).names.lookup y = some .free
  notVar : cl.lookup x = none
  envCells : ∀ y cc, env.cells.lookup y = some cc → env.kindOf y ≠ some .local

theorem comp_run {elt iter : Expr} {x : Str} {px : Pos} {ifs : List Expr} {scope : Scope} {cl : List (Str × Addr)} {pos : Pos} {s₁ : Shared} {v : AV} {rv : Value} {xs : List AV} {H₁ : AH} {RR : Value → Addr → Result → Shared → Prop} (pz : AV → Bool) (g : AV → AV) {I D C : Addr} {H2 H3 h₁ : Heap} {ob : Obj} {tk0 : Nat}
    (hh : A.handled = none) (K : Clos env scope cl x) (G₁ : GH c H₁ s₁) (F₁ : GF c env m H₁ s₁) (r₁ : VR c.b s₁.heap v rv) (hi : iterItems H₁ v = some xs) (hsz : xs.length ≤ sizeLine)
    (htest : ∀ C D zs y, H₁ D = none → y ∈ xs → TestsOk c A (compEnvC scope cl C env) ifs (updM (clM cl m) x y) (upd H₁ D (.lst zs)) fun b H' => b = pz y ∧ H' = upd H₁ D (.lst zs))
    (helt : ∀ C D zs y, H₁ D = none → y ∈ xs → pz y = true → EOk c A (compEnvC scope cl C env) elt (updM (clM cl m) x y) (upd H₁ D (.lst zs)) fun r H' => r = g y ∧ H' = upd H₁ D (.lst zs))
    (hRR : ∀ D C s' mr, H₁ D = none → GH c (upd H₁ D (.lst ((xs.filter pz).map g))) s' → GF c env m (upd H₁ D (.lst ((xs.filter pz).map g))) s' → Tr H₁ s₁ (upd H₁ D (.lst ((xs.filter pz).map g))) s' → s'.heap.Ns C mr → Apart c env (upd H₁ D (.lst ((xs.filter pz).map g))) C →
      s₁.heap.get? C = none → RR (.ref D) C (.ok .next) s')
    (hI : s₁.heap.objs.size = I) (hA2 : s₁.heap.push ob = H2) (hD : H2.objs.size = D) (hA3 : H2.push { cls := .type "list", dict := none, data := .seq ([] : List Value).toArray } = H3) (hC : H3.objs.size = C) (hfree : ob.isFreed = false) (hit : ItAt H2 v rv I 0) (hns₁ : h₁.Ns C fun x => List.lookup x [].reverse) (hsb₁ : Heap.SameBut C (H3.push { cls := .type "dict", data := .dict #[] }) h₁) :
    codeAny (model c.prog c.w) A (.compStart (.ListComp elt [⟨.Name x px, iter, ifs, 0⟩] scope pos) 0 (.ref I) (.ref D) (compEnvC scope cl C env)) (RR (.ref D) C) { s₁ with heap := h₁, toks := tk0 } := by
  have sz2 : H2.objs.size = I + 1 := by rw [← hA2, Heap.size_push, hI]
  rw [hD] at sz2
  have sz3 : H3.objs.size = D + 1 := by rw [← hA3, Heap.size_push, hD]
  rw [hC] at sz3
  have hID : I ≠ D := by rw [sz2]; exact (Nat.succ_ne_self _).symm
  have hDC : D ≠ C := by rw [sz3]; exact (Nat.succ_ne_self _).symm
  have hIC : I ≠ C := by rw [sz3, sz2]; exact Nat.ne_of_lt (Nat.lt_of_lt_of_le (Nat.lt_succ_self _) (Nat.le_succ _))
  have new : ∀ a, I ≤ a → s₁.heap.get? a = none := fun a ha => by
    cases hq : s₁.heap.get? a with
    | none => rfl
    | some o => exact absurd (Heap.lt_size hq) (Nat.not_lt.mpr (hI ▸ ha))
  have nI := new I (Nat.le_refl _)
  have nD := new D (by rw [sz2]; exact Nat.le_succ _)
  have nC := new C (by rw [sz3, sz2]; exact Nat.le_trans (Nat.le_succ _) (Nat.le_succ _))
  have k12 : ∀ a o, s₁.heap.get? a = some o → H2.get? a = some o := fun a o e => hA2 ▸ Heap.get?_push_of_some _ e
  have k23 : ∀ a o, H2.get? a = some o → H3.get? a = some o := fun a o e => hA3 ▸ Heap.get?_push_of_some _ e
  have neC3 : ∀ a o, H3.get? a = some o → a ≠ C := fun a o e => hC ▸ Nat.ne_of_lt (Heap.lt_size e)
  have k34 : ∀ a o, H3.get? a = some o → h₁.get? a = some o := fun a o e => hsb₁.extBut a o (neC3 a o e) (Heap.get?_push_of_some _ e)
  have k14 : ∀ a o, s₁.heap.get? a = some o → h₁.get? a = some o := fun a o e => k34 a o (k23 a o (k12 a o e))
  have hitI : H2.get? I = some ob := by rw [← hA2, ← hI]; exact Heap.get?_push_size _ hfree
  have hD3 : H3.get? D = some { cls := .type "list", dict := none, data := .seq ([] : List Value).toArray } := by rw [← hA3, ← hD]; exact Heap.get?_push_size _ rfl
  have G₄ : ∀ tk, GH c (upd H₁ D (.lst [])) { s₁ with heap := h₁, toks := tk } := fun tk => G₁.alloc k14 nD ⟨[], ⟨0, k34 _ _ hD3⟩, by simp [VRs]⟩
  have t₄ : ∀ tk, Tr H₁ s₁ (upd H₁ D (.lst [])) { s₁ with heap := h₁, toks := tk } := fun tk => .alloc k14 nD
  have hDnone := G₁.none_of_new nD
  have hInone := G₁.none_of_new nI
  have hCnone := G₁.none_of_new nC
  have itS : ∀ zs : List AV, iterItems (upd H₁ D (.lst zs)) v = some xs := fun zs => by
    cases v with
    | ref a =>
      simp only [iterItems] at hi ⊢
      have : a ≠ D := by rintro rfl; rw [hDnone] at hi; cases hi
      rw [upd_ne this]; exact hi
    | tup _ => exact hi
    | rng _ _ _ => exact hi
    | _ => simp [iterItems] at hi
  have PI : ∀ zs, Apart c env (upd H₁ D (.lst zs)) I := fun zs => by
    have P := Apart.new G₁ F₁ nI
    exact ⟨by rw [upd_ne hID]; exact P.h, P.l, P.cells, P.b⟩
  have PC : ∀ zs, Apart c env (upd H₁ D (.lst zs)) C := fun zs => by
    have P := Apart.new G₁ F₁ nC
    exact ⟨by rw [upd_ne (Ne.symm hDC)]; exact P.h, P.l, P.cells, P.b⟩
  -- the loop
  have loop : ∀ tk, codeAny (model c.prog c.w) A (.compLoop (.ListComp elt [⟨.Name x px, iter, ifs, 0⟩] scope pos) 0 (.ref I) (.ref D) (compEnvC scope cl C env)) (RR (.ref D) C) { s₁ with heap := h₁, toks := tk } := by
    intro tk
    let JI : Nat → Shared → Prop := fun n s' => ∃ i mr, C8 (n = xs.length + 1 - i) (i ≤ xs.length) (GH c (upd H₁ D (.lst (((xs.take i).filter pz).map g))) s') (GF c env m (upd H₁ D (.lst (((xs.take i).filter pz).map g))) s') (Tr H₁ s₁ (upd H₁ D (.lst (((xs.take i).filter pz).map g))) s') (s'.heap.Ns C mr) (ItAt s'.heap v rv I i) (VR c.b s'.heap v rv)
    refine codeAny_compLoop_tests JI ?_ (xs.length + 1) ⟨0, _, rfl, Nat.zero_le _, by simpa using G₄ tk, by simpa using F₁.tr G₁ (t₄ tk), by simpa using t₄ tk, hns₁, hit.keep fun o e => k34 _ _ (k23 _ _ e), r₁.kept fun a o _ _ e => k14 a o e⟩
    rintro n s' ⟨i, mr, rfl, hle, G₂, F₂, t₂, hn₂, hit₂, r₂⟩
    obtain ⟨oi, ivs, hoi, hdi, hn1, hn2⟩ := hit₂.there
    obtain ⟨oC, esC, epC, hoC, hdC, _⟩ := id hn₂
    cases hy : xs[i]? with
    | none =>
      have hlen : i = xs.length := Nat.le_antisymm hle (by simpa using hy)
      subst hlen
      refine iter_end hh G₂ r₂ (itS _) hy hit₂ fun h' he => ?_
      obtain ⟨G₃, F₃, tk₃⟩ := apart_set (tk := s'.toks) G₂ F₂ (PI _) hoi hdi hn1 hn2 he
      rw [List.take_length] at G₃ F₃ t₂
      refine hRR D C _ mr hDnone G₃ F₃ ⟨fun a o e1 e => ?_, t₂.dom, t₂.os⟩ (hn₂.extBut he (Ne.symm hIC)) (PC _) nC
      exact he a o (by rintro rfl; rw [nI] at e; cases e) (t₂.keep a o e1 e)
    | some y =>
      have hlt : i < xs.length := (List.getElem?_eq_some_iff.mp hy).1
      have hmem : y ∈ xs := List.mem_of_getElem? hy
      have htake : xs.take (i + 1) = xs.take i ++ [y] := by rw [List.take_add_one, hy]; rfl
      refine iter_next G₂ r₂ (itS _) hy hit₂ fun h' tk ry hry hit₃ hs₃ => ?_
      obtain ⟨G₃, F₃, tk₃⟩ := apart_set (tk := tk) G₂ F₂ (PI _) hoi hdi hn1 hn2 hs₃.extBut
      have hn₃ : h'.Ns C mr := hn₂.extBut hs₃.extBut (Ne.symm hIC)
      refine wpAny_assign_Name (wpAny_storeName_local (env := compEnvC scope cl C env) (lookup_relabel_local K.var) hn₃ (fun h₄ hn₄ hs₄ => ?_) (by simp [compEnvC, relabel, K.kind]))
      obtain ⟨G₄', F₄', tk₄⟩ := ns_set (tk := tk + 1) G₃ F₃ (PC _) hn₃ hs₄
      have t₄' : Tr H₁ s₁ (upd H₁ D (.lst (((xs.take i).filter pz).map g))) { s' with heap := h₄, toks := tk + 1 } := ⟨fun a o e1 e => hs₄.extBut a o (by rintro rfl; rw [nC] at e; cases e) (hs₃.extBut a o (by rintro rfl; rw [nI] at e; cases e) (t₂.keep a o e1 e)), t₂.dom, t₂.os⟩
      have hit₄ : ItAt h₄ v rv I (i + 1) := hit₃.keep fun o e => hs₄.extBut I o hIC e
      have r₄ : VR c.b h₄ v rv := (r₂.kept tk₃).kept tk₄
      -- the block's own view
      have FC : GF c (compEnvC scope cl C env) (updM (clM cl m) x y) (upd H₁ D (.lst (((xs.take i).filter pz).map g))) { s' with heap := h₄, toks := tk + 1 } := by
        refine ⟨(PC _).h, (PC (((xs.take i).filter pz).map g)).b, fun z cc e => F₄'.cells z cc (K.sub z cc e), _, hn₄, fun z w e => ?_⟩
        by_cases hz : z = x
        · subst hz
          simp only [updM, if_true, Option.some.injEq] at e
          subst e
          exact .inl ⟨lookup_relabel_local K.var, ry, by simp, (hry.kept tk₃).kept tk₄⟩
        · simp only [updM, if_neg hz, clM] at e
          split at e
          · rename_i hc
            obtain ⟨cc, hcc⟩ := Option.isSome_iff_exists.mp hc
            have henv := K.sub z cc hcc
            obtain ⟨_, _, hv⟩ := F₄'.ns
            rcases hv z w e with ⟨h1, _⟩ | ⟨_, cc', rw', h2, h3, h4⟩
            · exact absurd h1 (K.envCells z cc henv)
            · rw [henv] at h2; cases h2
              exact .inr ⟨K.kinds z cc hcc, cc, rw', hcc, h3, h4⟩
          · cases e
      refine pass_E (htest C D _ y hDnone hmem _ G₄' FC) fun ok s₅ hh => ?_
      obtain ⟨H₅, G₅, t₅, e1, e2⟩ := hh
      subst e1 e2
      have back : ∀ s₆, GH c (upd H₁ D (.lst (((xs.take i).filter pz).map g))) s₆ → Tr (upd H₁ D (.lst (((xs.take i).filter pz).map g))) { s' with heap := h₄, toks := tk + 1 } (upd H₁ D (.lst (((xs.take i).filter pz).map g))) s₆ →
          s₆.heap.Ns C (fun z => if z = x then some ry else mr z) ∧ ItAt s₆.heap v rv I (i + 1) ∧ VR c.b s₆.heap v rv := fun s₆ G₆ t₆ => by
        obtain ⟨oC', es', ep', hoC', r'⟩ := id hn₄
        refine ⟨⟨oC', es', ep', t₆.keep _ _ (PC _).h hoC', r'⟩, hit₄.keep fun o e => t₆.keep _ _ (PI _).h e, r₄.kept (t₆.tup G₄')⟩
      cases hpz : pz y with
      | false =>
        simp only [Bool.false_eq_true, if_false]
        have he : ((xs.take (i + 1)).filter pz).map g = ((xs.take i).filter pz).map g := by rw [htake, List.filter_append]; simp [hpz]
        obtain ⟨b1, b2, b3⟩ := back s₅ G₅ t₅
        refine ⟨xs.length + 1 - (i + 1), by omega, i + 1, _, rfl, hlt, ?_, ?_, ?_, b1, b2, b3⟩
        · rw [he]; exact G₅
        · rw [he]; exact F₄'.tr G₄' t₅
        · rw [he]; exact t₄'.trans t₅
      | true =>
        simp only [if_true]
        refine pass_E (helt C D _ y hDnone hmem hpz s₅ G₅ (FC.tr G₄' t₅)) fun ye s₆ hh => ?_
        obtain ⟨av, H₆, r₆, G₆, t₆, e1, e2⟩ := hh
        subst e1 e2
        obtain ⟨b1, b2, b3⟩ := back s₆ G₆ (t₅.trans t₆)
        have hl6 : upd H₁ D (.lst (((xs.take i).filter pz).map g)) D = some (.lst (((xs.take i).filter pz).map g)) := upd_self _ _ _
        obtain ⟨ws, p6, rs6⟩ := G₆.lst hl6
        have hlen6 : ws.length ≤ sizeLine := by
          rw [rs6.length, List.length_map]
          exact Nat.le_trans (List.length_filter_le _ _) (Nat.le_trans (by rw [List.length_take]; exact Nat.min_le_right _ _) hsz)
        refine wpAny_list_append_plain p6 (fun h₇ p7 hs₇ => ?_) (by rw [List.size_toArray]; exact hlen6)
        have kne : ∀ b ob, b ≠ D → s₆.heap.get? b = some ob → h₇.get? b = some ob := hs₇.extBut
        have tk7 : TupKept s₆.heap h₇ := fun b ob hc _ e => kne b ob (by
          rintro rfl
          obtain ⟨n', p6⟩ := p6
          rw [e] at p6; cases p6
          rcases hc with hc | hc <;> simp at hc) e
        have he : ((xs.take (i + 1)).filter pz).map g = ((xs.take i).filter pz).map g ++ [g y] := by rw [htake, List.filter_append]; simp [hpz]
        have hupd : upd (upd H₁ D (.lst (((xs.take i).filter pz).map g))) D (.lst (((xs.take (i + 1)).filter pz).map g)) = upd H₁ D (.lst (((xs.take (i + 1)).filter pz).map g)) := by
          funext a; simp only [upd]; split <;> rfl
        have G₇ := G₆.set (tk := s₆.toks) (o' := .lst (((xs.take (i + 1)).filter pz).map g)) (h' := h₇) hl6 kne ⟨ws ++ [ye], by simpa using p7, by rw [he]; exact (rs6.append (by simp only [VRs]; exact ⟨ye, [], rfl, r₆, rfl⟩)).kept tk7⟩
        have t₇ := Tr.set (tk := s₆.toks) (s := s₆) (o' := .lst (((xs.take (i + 1)).filter pz).map g)) (h' := h₇) hl6 kne
        rw [hupd] at G₇ t₇
        have tt := (t₄'.trans (t₅.trans t₆)).trans t₇
        refine ⟨xs.length + 1 - (i + 1), by omega, i + 1, (fun z => if z = x then some ry else mr z), rfl, hlt, G₇, (F₄'.tr G₄' (t₅.trans t₆)).tr G₆ t₇, tt, ?_, ?_, b3.kept tk7⟩
        · obtain ⟨o9, es9, ep9, ho9, r9⟩ := b1
          exact ⟨o9, es9, ep9, kne _ _ (Ne.symm hDC) ho9, r9⟩
        · exact b2.keep fun o e => kne _ _ hID e
  have self : ∀ tk, wpAny (model c.prog c.w) A (pyIter (.ref I)) (fun it' s' => codeAny (model c.prog c.w) A (.compLoop (.ListComp elt [⟨.Name x px, iter, ifs, 0⟩] scope pos) 0 it' (.ref D) (compEnvC scope cl C env)) (RR (.ref D) C) s')
      (notedBy (model c.prog c.w) A (compEnvC scope cl C env) fun x s' => RR (.ref D) C (.error x) s') { s₁ with heap := h₁, toks := tk } := by
    intro tk
    have hitK : ItAt h₁ v rv I 0 := hit.keep fun o e => k34 _ _ (k23 _ _ e)
    cases v with
    | ref a => exact wpAny_pyIter_listiter hitK (loop tk)
    | tup ys => obtain ⟨t, _, hq⟩ := hitK; exact wpAny_pyIter_tupleiter hq (loop tk)
    | rng lo n st => exact wpAny_pyIter_rangeiter hitK (loop tk)
    | _ => simp [iterItems] at hi
  exact codeAny_compStart_list (loop _) (self _)

theorem comp_core {elt iter : Expr} {x : Str} {px : Pos} {ifs : List Expr} {scope : Scope} {cl : List (Str × Addr)} {pos : Pos} {s₁ : Shared} {v : AV} {rv : Value} {xs : List AV} {H₁ : AH} {RR : Value → Addr → Result → Shared → Prop} (pz : AV → Bool) (g : AV → AV)
    (hh : A.handled = none) (K : Clos env scope cl x) (G₁ : GH c H₁ s₁) (F₁ : GF c env m H₁ s₁) (r₁ : VR c.b s₁.heap v rv) (hi : iterItems H₁ v = some xs) (hsz : xs.length ≤ sizeLine)
    (htest : ∀ C D zs y, H₁ D = none → y ∈ xs → TestsOk c A (compEnvC scope cl C env) ifs (updM (clM cl m) x y) (upd H₁ D (.lst zs)) fun b H' => b = pz y ∧ H' = upd H₁ D (.lst zs))
    (helt : ∀ C D zs y, H₁ D = none → y ∈ xs → pz y = true → EOk c A (compEnvC scope cl C env) elt (updM (clM cl m) x y) (upd H₁ D (.lst zs)) fun r H' => r = g y ∧ H' = upd H₁ D (.lst zs))
    (hRR : ∀ D C s' mr, H₁ D = none → GH c (upd H₁ D (.lst ((xs.filter pz).map g))) s' → GF c env m (upd H₁ D (.lst ((xs.filter pz).map g))) s' → Tr H₁ s₁ (upd H₁ D (.lst ((xs.filter pz).map g))) s' → s'.heap.Ns C mr → Apart c env (upd H₁ D (.lst ((xs.filter pz).map g))) C →
      s₁.heap.get? C = none → RR (.ref D) C (.ok .next) s') :
    wpAny (model c.prog c.w) A (pyIter rv) (fun it s₂ => wpAny (model c.prog c.w) A (newList []) (fun acc s₃ => wpAny (model c.prog c.w) A (newFunctionEnv scope env.globals cl [] env.qual none .none (some env)) (fun cenv s₄ =>
      codeAny (model c.prog c.w) A (.compStart (.ListComp elt [⟨.Name x px, iter, ifs, 0⟩] scope pos) 0 it acc { cenv with scope := relabel scope env }) (RR acc cenv.locals) s₄) NoE s₃) NoE s₂) NoE s₁ := by
  refine iter_new G₁ r₁ hi fun ob hfree hit => ?_
  refine wpAny_newObj_type (wpAny_newFunctionEnv K.cell (by intro y hy; simp at hy) (fun h₁ hns₁ hsb₁ => ?_) K.kind)
  exact comp_run (s₁ := s₁) pz g hh K G₁ F₁ r₁ hi hsz htest helt hRR rfl rfl rfl rfl rfl hfree hit hns₁ hsb₁

theorem eok_comp {elt iter : Expr} {x : Str} {px : Pos} {ifs : List Expr} {scope : Scope} {cl : List (Str × Addr)} {pos : Pos} {Q : AV → AH → Prop} (hh : A.handled = none) (K : Clos env scope cl x)
    (h : EOk c A env iter m H fun v H₁ => ∃ xs, ∃ (pz : AV → Bool) (g : AV → AV), iterItems H₁ v = some xs ∧ xs.length ≤ sizeLine ∧
      (∀ C D zs y, H₁ D = none → y ∈ xs → TestsOk c A (compEnvC scope cl C env) ifs (updM (clM cl m) x y) (upd H₁ D (.lst zs)) fun b H' => b = pz y ∧ H' = upd H₁ D (.lst zs)) ∧
      (∀ C D zs y, H₁ D = none → y ∈ xs → pz y = true → EOk c A (compEnvC scope cl C env) elt (updM (clM cl m) x y) (upd H₁ D (.lst zs)) fun r H' => r = g y ∧ H' = upd H₁ D (.lst zs)) ∧
      (∀ D, H₁ D = none → Q (.ref D) (upd H₁ D (.lst ((xs.filter pz).map g)))))
    (hs : ∀ v, foldedSetIterable iter env v = pure v := by intro _; rfl) : EOk c A env (.ListComp elt [⟨.Name x px, iter, ifs, 0⟩] scope pos) m H Q := by
  intro s G F
  rw [eval_ListComp]
  refine wpAny_comprehension_free (use := none) rfl hs K.clos K.kind K.names (bind2 (h s G F) fun rv s₁ hh => ?_)
  obtain ⟨v, H₁, r₁, G₁, t₁, xs, pz, g, hi, hsz, htest, helt, hq⟩ := hh
  have F₁ := F.tr G t₁
  refine comp_core (RR := fun acc C => compPost (model c.prog c.w) A NoE none (Ends c H s Q) acc C) pz g hh K G₁ F₁ r₁ hi hsz htest helt fun D C s' mr hD G' F' t' hn' P' hC => ?_
  refine ⟨mr, hn', fun h' hs' => ?_⟩
  obtain ⟨G₂, F₂, tk₂⟩ := ns_set (tk := s'.toks) G' F' P' hn' hs'
  exact ⟨.ref D, _, by simp [VR], G₂, t₁.trans ⟨fun a o e1 e => hs'.extBut a o (by rintro rfl; rw [hC] at e; cases e) (t'.keep a o e1 e), t'.dom, t'.os⟩, hq D hD⟩

theorem sok_assign_comp {elt iter : Expr} {x y : Str} {px py : Pos} {ifs : List Expr} {scope : Scope} {cl : List (Str × Addr)} {pos spos : Pos} {Q : AFl → LM → AH → Prop} (hh : A.handled = none) (K : Clos env scope cl x)
    (h : EOk c A env iter m H fun v H₁ => ∃ xs, ∃ (pz : AV → Bool) (g : AV → AV), iterItems H₁ v = some xs ∧ xs.length ≤ sizeLine ∧
      (∀ C D zs y, H₁ D = none → y ∈ xs → TestsOk c A (compEnvC scope cl C env) ifs (updM (clM cl m) x y) (upd H₁ D (.lst zs)) fun b H' => b = pz y ∧ H' = upd H₁ D (.lst zs)) ∧
      (∀ C D zs y, H₁ D = none → y ∈ xs → pz y = true → EOk c A (compEnvC scope cl C env) elt (updM (clM cl m) x y) (upd H₁ D (.lst zs)) fun r H' => r = g y ∧ H' = upd H₁ D (.lst zs)) ∧
      (∀ D, H₁ D = none → Q .next (updM m y (.ref D)) (upd H₁ D (.lst ((xs.filter pz).map g)))))
    (hsw : swapsWith (.ListComp elt [⟨.Name x px, iter, ifs, 0⟩] scope pos) (some (.Name y py)) spos.line env = pure true) (hy : Stores env y) (hk : env.scope.kind = .function := by rfl)
    (hs : ∀ v, foldedSetIterable iter env v = pure v := by intro _; rfl) : SOk c A env (exec (.Assign [.Name y py] (.ListComp elt [⟨.Name x px, iter, ifs, 0⟩] scope pos) spos) env) m H Q := by
  intro s G F
  rw [exec_Assign_Name_used _ _ _ _ hsw]
  refine wpAny_bind (wpAny_standAt (wpAny_bind ?_))
  show wpAny _ A (do let _ ← comprehension (.ListComp elt [⟨.Name x px, iter, ifs, 0⟩] scope pos) scope env _ (newList []) false (eval iter env) (some (assign (.Name y py) env))) _ _ s
  refine wpAny_bind (wpAny_mono (wpAny_comprehension_free (use := some (assign (.Name y py) env)) (Q := fun _ s' => ∃ fl m' H', FlR c.b s'.heap fl .next ∧ GH c H' s' ∧ GF c env m' H' s' ∧ TrS env H s H' s' ∧ Q fl m' H') rfl hs K.clos K.kind K.names
    (bind2 (h s G F) fun rv s₁ hh' => ?_)) (fun _ s' hq => wpAny_pure (wpAny_pure hq)) fun _ _ e => e)
  obtain ⟨v, H₁, r₁, G₁, t₁, xs, pz, g, hi, hsz, htest, helt, hq⟩ := hh'
  have F₁ := F.tr G t₁
  refine comp_core (RR := fun acc C => compPost (model c.prog c.w) A NoE (some (assign (.Name y py) env)) (fun _ s' => ∃ fl m' H', FlR c.b s'.heap fl .next ∧ GH c H' s' ∧ GF c env m' H' s' ∧ TrS env H s H' s' ∧ Q fl m' H') acc C) pz g hh K G₁ F₁ r₁ hi hsz htest helt fun D C s' mr hD G' F' t' hn' P' hC => ?_
  show wpAny _ A (assign (.Name y py) env (.ref D)) _ _ _
  refine wpAny_assign_Name (store_ok (v := .ref D) G' F' (by simp [VR]) hk hy fun h₂ tk₂ G₂ F₂ t₂ => ?_)
  obtain ⟨oC, es, ep, hoC, rC⟩ := id hn'
  have hn₂ : h₂.Ns C mr := ⟨oC, es, ep, t₂.keep C oC P'.h P'.l P'.cells hoC, rC⟩
  have P₂ : Apart c env (upd H₁ D (.lst ((xs.filter pz).map g))) C := P'
  refine ⟨mr, hn₂, fun h' hs' => ?_⟩
  obtain ⟨G₃, F₃, tk₃⟩ := ns_set (tk := tk₂) G₂ F₂ P₂ hn₂ hs'
  refine ⟨.next, _, _, rfl, G₃, F₃, ?_, hq D hD⟩
  have tt := (t₁.trans t').s.trans t₂
  refine ⟨fun a o e1 e2 e3 e => hs'.extBut a o ?_ (tt.keep a o e1 e2 e3 e), fun a o e1 e => ?_, tt.dom, tt.os⟩
  · rintro rfl; rw [t₁.keep _ _ e1 e] at hC; cases hC
  · obtain ⟨o', e'⟩ := tt.live a o e1 e
    exact ⟨o', hs'.extBut a o' (by rintro rfl; rw [t₁.keep _ _ e1 e] at hC; cases hC) e'⟩
end
end Mine
namespace Mine
open PySem PySem.W PySem.Calls PyProof.Rows

mutual
theorem VR.base {b b' h : Heap} (k : ∀ a o, b.get? a = some o → b'.get? a = some o) : ∀ {x : AV} {v : Value}, VR b h x v → VR b' h x v
  | .none, _, e => e
  | .bool _, _, e => e
  | .int _, _, e => e
  | .ref _, _, e => e
  | .typ _, _, e => e
  | .fro _, _, e => by
    simp only [VR] at e ⊢
    obtain ⟨a, vs, rfl, ⟨o, ho, r⟩, q⟩ := e
    exact ⟨a, vs, rfl, ⟨o, k _ _ ho, r⟩, q⟩
  | .rng _ _ _, v, e => by simpa only [VR] using e
  | .tup xs, v, e => by
    simp only [VR] at e ⊢
    obtain ⟨a, vs, rfl, ht, h2⟩ := e
    exact ⟨a, vs, rfl, ht, VRs.base k h2⟩
theorem VRs.base {b b' h : Heap} (k : ∀ a o, b.get? a = some o → b'.get? a = some o) : ∀ {xs : List AV} {vs : List Value}, VRs b h xs vs → VRs b' h xs vs
  | [], _, e => e
  | x :: xs, _, e => by
    simp only [VRs] at e ⊢
    obtain ⟨v, r, rfl, h1, h2⟩ := e
    exact ⟨v, r, rfl, VR.base k h1, VRs.base k h2⟩
end

noncomputable def noH : AH := fun _ => none

/-- what a generator expression's block sees of a name -/
noncomputable def Frz (H : AH) (v w : AV) : Prop := w = v ∨ ∃ a ns, v = .ref a ∧ H a = some (.lst (ns.map .int)) ∧ w = .fro ns

structure GClos (env : Env) (scope : Scope) (cl : List (Str × Addr)) (x : Str) : Prop where
  clos : closureFor scope env = pure cl
  cell : ∀ y ∈ scope.names, y.2 ≠ .cell
  kind : scope.kind = .function
  co : scope.isCoroutine = false
  it : scope.names.lookup (".0" : Str) = some NameKind.local
  var : scope.names.lookup x = some .local
  sub : ∀ y cc, (y, cc) ∈ cl → env.cells.lookup y = some cc
  kinds : ∀ y cc, cl.lookup y = some cc → scope.names.lookup y = some .cell ∨ scope.names.lookup y = some .free
  envCells : ∀ y cc, env.cells.lookup y = some cc → env.kindOf y ≠ some .local

section
variable {c : Cx} {A : Around} {env : Env} {m : LM} {H : AH} {Q : AV → AH → Prop}

theorem ints_tok {b h : Heap} : ∀ {ns : List Int} {vs : List Value}, VRs b h (ns.map .int) vs → ∃ ts : List Tok, ts.length = ns.length ∧ vs = List.zipWith Value.int ns ts
  | [], _, e => by simp only [List.map_nil, VRs] at e; subst e; exact ⟨[], rfl, rfl⟩
  | n :: ns, _, e => by
    simp only [List.map_cons, VRs] at e
    obtain ⟨v, r, rfl, h1, h2⟩ := e
    simp only [VR] at h1
    obtain ⟨t, rfl⟩ := h1
    obtain ⟨ts, h3, rfl⟩ := ints_tok h2
    exact ⟨t :: ts, by simp [h3], rfl⟩

/-- the block of a generator expression, item by item -/
theorem gen_elt {elt : Expr} {x : Str} {scope : Scope} {cl : List (Str × Addr)} {s₁ t : Shared} {H₁ : AH} {P : Addr} {A' : Around} {E' : Value → Shared → Prop} {C : Addr} {code : Value} {y : AV} {ry : Value} {m₂ : Str → Option Value} {mb : LM} {q : Bool}
    (K : GClos env scope cl x) (G₁ : GH c H₁ s₁) (F₁ : GF c env m H₁ s₁) (hP : c.b.get? P = none) (hPH : ∃ g ps, H₁ P = some (.tab g ps)) (hy : VR c.b s₁.heap y ry) (hn : t.heap.Ns C m₂) (hx : m₂ x = some ry)
    (hk : ∀ b o, b ≠ P → s₁.heap.get? b = some o → t.heap.get? b = some o) (hCb : c.b.get? C = none)
    (hmb : ∀ z w, mb z = some w → (z = x ∧ w = y) ∨ (z ≠ x ∧ ∃ cc v, cl.lookup z = some cc ∧ m z = some v ∧ Frz H₁ v w))
    (h : ∀ c' : Cx, c'.prog = c.prog → c'.w = c.w → (∀ a o, c.b.get? a = some o → c'.b.get? a = some o) → EOk c' A' (genEnv scope cl C code builtinsNs env) elt mb noH fun r H' => r = .bool q ∧ H' = noH) :
    wpAny (model c.prog c.w) A' (eval elt (genEnv scope cl C code builtinsNs env)) (fun v s₃ => v = .bool q ∧ Keeps t s₃) E' t := by
  let hid : List Addr := C :: cl.map (·.2)
  let c' : Cx := ⟨c.prog, c.w, hideAll t.heap hid, fun g d => g = t.gens ∧ d = t.drawn⟩
  obtain ⟨gP, psP, hPH⟩ := hPH
  have hPobj := (G₁.objs P _ hPH).1.1
  have cellsOf : ∀ z cc, (z, cc) ∈ cl → ∃ z', env.cells.lookup z' = some cc := fun z cc hm => ⟨z, K.sub z cc hm⟩
  have baseIn : ∀ a o, c.b.get? a = some o → (hideAll t.heap hid).get? a = some o := by
    intro a o e
    have e1 := G₁.keep a o e
    have hne : a ≠ P := by rintro rfl; rw [hP] at e; cases e
    refine hideAll_get hid (hk a o hne e1) ?_
    intro hm
    rcases List.mem_cons.mp hm with rfl | hm
    · rw [hCb] at e; cases e
    · obtain ⟨⟨z, cc⟩, hz, rfl⟩ := List.mem_map.mp hm
      obtain ⟨z', hz'⟩ := cellsOf z cc hz
      rw [(F₁.cells z' cc hz').2.1] at e; cases e
  have tk : TupKept s₁.heap t.heap := fun a o hc _ e => hk a o (by
    rintro rfl
    rw [hPobj] at e; cases e
    rcases hc with hc | hc <;> simp at hc) e
  have G' : GH c' noH t := ⟨fun a o e => (by cases e), fun a o e => of_hideAll hid e, rfl, rfl⟩
  have F' : GF c' (genEnv scope cl C code builtinsNs env) mb noH t := by
    refine ⟨rfl, hideAll_none hid (List.mem_cons_self), fun z cc e => ⟨rfl, hideAll_none hid (List.mem_cons_of_mem _ (List.mem_map.mpr ⟨(z, cc), mem_of_lookup e, rfl⟩)), ?_⟩, m₂, hn, fun z w e => ?_⟩
    · obtain ⟨_, _, v, oc, h3, h4⟩ := F₁.cells z cc (K.sub z cc (mem_of_lookup e))
      exact ⟨v, oc, hk _ _ (by rintro rfl; rw [hPobj] at h3; cases h3; cases h4) h3, h4⟩
    · rcases hmb z w e with ⟨rfl, rfl⟩ | ⟨hz, cc, v, hcc, hm, hf⟩
      · exact .inl ⟨K.var, ry, hx, (hy.kept tk).base baseIn⟩
      · obtain ⟨mr, _, hv⟩ := F₁.ns
        have henv := K.sub z cc (mem_of_lookup hcc)
        rcases hv z v hm with ⟨h1, _⟩ | ⟨_, cc', rv, h2, ⟨oc, h4, h5⟩, h6⟩
        · exact absurd h1 (K.envCells z cc henv)
        · rw [henv] at h2; cases h2
          refine .inr ⟨K.kinds z cc hcc, cc, rv, hcc, ⟨oc, hk _ _ (by rintro rfl; rw [hPobj] at h4; cases h4; cases h5) h4, h5⟩, ?_⟩
          rcases hf with rfl | ⟨a, ns, rfl, hl, rfl⟩
          · exact (h6.kept tk).base baseIn
          · simp only [VR] at h6
            subst h6
            obtain ⟨vs, ⟨n, p⟩, rs⟩ := G₁.lst hl
            obtain ⟨ts, hts, rfl⟩ := ints_tok rs
            simp only [VR]
            refine ⟨a, _, rfl, ⟨_, hideAll_get hid (hk _ _ (by rintro rfl; rw [hPobj] at p; cases p) p) ?_, rfl, n, rfl⟩, ts, hts, rfl⟩
            intro hm'
            rcases List.mem_cons.mp hm' with e' | hm'
            · obtain ⟨oC, _, _, hoC, hdC, _⟩ := hn
              rw [← e', hk _ _ (by rintro rfl; rw [hPobj] at p; cases p) p] at hoC; cases hoC; cases hdC
            · obtain ⟨⟨z', cc'⟩, hz', e'⟩ := List.mem_map.mp hm'
              obtain ⟨z'', hz''⟩ := cellsOf z' cc' hz'
              obtain ⟨_, _, v', oc', h7, h8⟩ := F₁.cells z'' cc' hz''
              dsimp only at e'
              subst e'
              rw [p] at h7; cases h7; cases h8
  refine wpAny_mono (h c' rfl rfl baseIn t G' F') (fun v s₃ ⟨av, H', r, G₃, t₃, e1, e2⟩ => ?_) fun _ _ x => x.elim
  subst e1
  simp only [VR] at r
  refine ⟨r, s₃.heap, s₃.toks, ?_, fun b o e => t₃.keep b o rfl e⟩
  have h1 := G₃.bare.1
  have h2 := G₃.bare.2
  have h3 := t₃.os
  cases s₃
  cases t
  simp_all

theorem walk_gen {s : Shared} {v : AV} {rv : Value} {xs : List AV} {R : Value → Shared → Prop} (G : GH c H s) (r : VR c.b s.heap v rv) (hi : iterItems H v = some xs) (hv : (∃ a, v = .ref a) ∨ ∃ lo n st, v = .rng lo n st)
    (h : ∀ ob fp Pi St₀, (∀ A' : Around, A'.handled = none → Walks c.prog c.w A' s.heap.objs.size fp [s.heap.objs.size] xs.length Pi St₀) → St₀ 0 (s.heap.push ob) → (∀ b ∈ fp, b = s.heap.objs.size ∨ ∃ o, s.heap.get? b = some o ∧ o.cls = .type "list") →
      (∀ i v, Pi i v → ∃ y, xs[i]? = some y ∧ VR c.b s.heap y v) → R (.ref s.heap.objs.size) { s with heap := s.heap.push ob }) : wpAny (model c.prog c.w) A (pyIter rv) R NoE s := by
  rcases hv with ⟨a, rfl⟩ | ⟨lo, n, st, rfl⟩
  · simp only [VR] at r
    subst r
    simp only [iterItems] at hi
    split at hi
    · rename_i ys q
      obtain rfl : ys = xs := Option.some.inj hi
      obtain ⟨vs, p, rs⟩ := G.lst q
      obtain ⟨k, ho⟩ := id p
      have hlt : a < s.heap.objs.size := Heap.lt_size ho
      have hl : vs.toArray.size = ys.length := by rw [List.size_toArray, rs.length]
      refine wpAny_pyIter_list p.isList (h _ [s.heap.objs.size, a] (fun i v => vs.toArray[i]? = some v) (fun i h => h.IsListIter s.heap.objs.size a i ∧ h.IsList a vs.toArray) (fun A' hA => ?_) ⟨⟨_, Heap.get?_push_size _ rfl, rfl, rfl⟩, p.isList.push _⟩ ?_ ?_)
      · have W := Walks.list (prog := c.prog) (w := c.w) (A := A') hA s.heap.objs.size a (Nat.ne_of_lt hlt) vs.toArray
        rw [hl] at W
        exact W
      · intro b hb
        have e1 : b = s.heap.objs.size ∨ b = a := by simpa using hb
        rcases e1 with e1 | rfl
        · exact .inl e1
        · exact .inr ⟨_, ho, rfl⟩
      · intro i v e
        have e' : vs[i]? = some v := by simpa using e
        have hi : i < ys.length := by
          have := (List.getElem?_eq_some_iff.mp e').1
          rwa [rs.length] at this
        obtain ⟨w, hw, rw'⟩ := rs.get (i := i) (x := ys[i]) (by simp [hi])
        rw [e'] at hw; cases hw
        exact ⟨ys[i], by simp [hi], rw'⟩
    · cases hi
  · simp only [VR] at r
    obtain ⟨a, hi', t, u, w, rfl, hr, hs, hz⟩ := r
    simp only [iterItems] at hi
    cases hi
    have hl : ((List.range n).map fun i : Nat => AV.int (lo + (i : Int) * st)).length = n := by simp
    refine wpAny_pyIter_range hr hs (h _ [s.heap.objs.size] (fun i v => i < n ∧ ∃ t, v = .int (lo + i * st) t) (fun i h => i ≤ n ∧ IsRangeIter h s.heap.objs.size (lo + (i : Nat) * st) ((n : Int) - (i : Nat)) st) (fun A' hA => ?_) ⟨Nat.zero_le _, ?_⟩ ?_ ?_)
    · rw [hl]
      have W := Walks.range (prog := c.prog) (w := c.w) (A := A') hA s.heap.objs.size lo st n
      exact ⟨W.sub, fun i h h' st' k => ⟨st'.1, W.frame i h h' st'.2 k⟩, fun i s Q E hlt st' hQ => W.item i s Q E hlt st'.2 fun v h' tk hp hst k => hQ v h' tk ⟨hlt, hp⟩ ⟨hlt, hst⟩ k,
        fun s Q E st' hQ => W.done s Q E st'.2 hQ, fun i s Q E st' hQ => W.self i s Q E st'.2 hQ⟩
    · rw [show lo + ((0 : Nat) : Int) * st = lo by simp, show ((n : Int) - ((0 : Nat) : Int)) = n by simp, ← hz]
      exact Heap.get?_push_size _ rfl
    · intro b hb
      exact .inl (by simpa using hb)
    · rintro i v ⟨hlt, t, rfl⟩
      exact ⟨.int (lo + i * st), by simp [hlt], by simp [VR]⟩

/-- what holds of a generator expression's source and items -/
noncomputable abbrev GenPre (c : Cx) (A : Around) (env : Env) (m : LM) (elt : Expr) (x : Str) (scope : Scope) (cl : List (Str × Addr)) (P : Addr) (gh : Heap) (ps : Array Value) (v : AV) (H₁ : AH) (xs : List AV) (q : AV → Bool) : Prop :=
  iterItems H₁ v = some xs ∧ ((∃ a, v = .ref a) ∨ ∃ lo n st, v = .rng lo n st) ∧ H₁ P = some (.tab gh ps) ∧
  (∀ y ∈ xs, ∃ mb : LM, (∀ z w, mb z = some w → (z = x ∧ w = y) ∨ (z ≠ x ∧ ∃ cc v, cl.lookup z = some cc ∧ m z = some v ∧ Frz H₁ v w)) ∧
    ∀ (C : Addr) (code : Value) (A' : Around) (c' : Cx), A'.handled = none → A'.depth ≤ A.depth + 1 → A'.units ≤ A.units + 8 → c'.prog = c.prog → c'.w = c.w → (∀ a o, c.b.get? a = some o → c'.b.get? a = some o) →
      EOk c' A' (genEnv scope cl C code builtinsNs env) elt mb noH fun r H' => r = .bool (q y) ∧ H' = noH)

theorem gen_core {iter elt : Expr} {x : Str} {px gpos : Pos} {scope : Scope} {cl : List (Str × Addr)} {h₁ gh : Heap} {cc P bm : Addr} {ob : Obj} {mg : Str → Option Value} {ps : Array Value} {s : Shared} {R : Value → Shared → Prop} {Rst : AH → List AV → (AV → Bool) → Prop}
    (hgp : ∀ g d, c.gp g d ↔ AllBare g) (hh : A.handled = none) (hroom : A.depth < recursionLimit) (K : GClos env scope cl x) (hcode : env.code = .ref cc) (hM : BMod c.b env.globals mg bm ob) (hlim : c.b.NoLimit) (habove : c.b.objs.size ≤ env.locals)
    (hT : H P = some (.tab gh ps)) (B : Based h₁ gh cc P ps) (hnf : codeAmong gpos ps.toList = none) (G : GH c H s) (F : GF c env m H s)
    (h : EOk c A env iter m H fun v H₁ => ∃ xs q, GenPre c A env m elt x scope cl P gh ps v H₁ xs q ∧ Rst H₁ xs q)
    (hR : ∀ mr s₁ H₁ xs q a c₁ s₅, GH c H₁ s₁ → GF c env m H₁ s₁ → Tr H s H₁ s₁ → s₁.heap.Ns env.locals mr → H₁ P = some (.tab gh ps) → Rst H₁ xs q → Based h₁ (regrown gh P (ps ++ #[rawInt gpos.line, rawInt gpos.col, .ref c₁])) cc P (ps ++ #[rawInt gpos.line, rawInt gpos.col, .ref c₁]) →
      Fr (regrown gh P (ps ++ #[rawInt gpos.line, rawInt gpos.col, .ref c₁])) env.locals s₅.heap mr → AllBare s₅.gens → s₅.os = s₁.os → (∀ b o, b ≠ P → s₁.heap.get? b = some o → s₅.heap.get? b = some o) → env.locals ≤ s₁.heap.objs.size - 1 → 0 < s₁.heap.objs.size →
      Gen c.prog c.w A (s₁.heap.objs.size - 1) a xs.length (fun j y => ∃ z, xs[j]? = some z ∧ y = .bool (q z)) s₅ → R (.ref a) s₅)
    (hs : ∀ x, genFold iter env x = pure x) : wpAny (model c.prog c.w) A (eval (.GeneratorExp elt [⟨.Name x px, iter, [], 0⟩] scope gpos) env) R NoE s := by
  obtain ⟨mr, hn, hv⟩ := F.ns
  obtain ⟨_, hg2, hg3, hg4⟩ := (G.objs P _ hT).1
  have hPb := (G.objs P _ hT).2
  have cg : ∀ a o, c.b.get? a = some o → gh.get? a = some o := fun a o e => by
    rw [hg4 a (by rintro rfl; rw [hPb] at e; cases e)]; exact e
  have up : ∀ {s' : Shared} {H' : AH}, GH c H' s' → H' P = some (.tab gh ps) → ∀ a o, gh.get? a = some o → s'.heap.get? a = some o := fun G' hP' a o e => by
    by_cases ha : a = P
    · subst ha; rw [hg2] at e; cases e; exact (G'.objs _ _ hP').1.1
    · rw [hg4 a ha] at e; exact G'.keep a o e
  refine GeneratorExp_rowsF (L := env.locals) (m := mr) B (hM.keeps cg) hcode hnf hh K.co K.clos K.cell K.it K.var K.kind hroom (bind2 (h s G F) fun rv s₁ ⟨v, H₁, r₁, G₁, t₁, xs, q, ⟨hi, hv', hP, hel⟩, hrst⟩ => ?_) hs
  have F₁ := F.tr G t₁
  have hn₁ : s₁.heap.Ns env.locals mr := by
    obtain ⟨o, es, ep, ho, r⟩ := hn
    exact ⟨o, es, ep, t₁.keep _ _ F.own ho, r⟩
  have hLlt : env.locals < s₁.heap.objs.size := hn₁.lt
  refine walk_gen G₁ r₁ hi hv' fun ob fp Pi St₀ W hst hfp hPi => ?_
  have kp := push_keeps s₁.heap ob
  have sz : (s₁.heap.push ob).objs.size = s₁.heap.objs.size + 1 := Heap.size_push ..
  have hPlt : P < s₁.heap.objs.size := Heap.lt_size (G₁.objs P _ hP).1.1
  refine ⟨⟨hn₁.push _, fun a o e => kp a o (up G₁ hP a o e), by rw [hg3]; exact habove⟩, (hgp _ _).mp G₁.bare, (hlim.keeps G₁.keep).push _, s₁.heap.objs.size - 1, s₁.heap.objs.size, fp, [s₁.heap.objs.size], xs.length, Pi, St₀, (fun _ => true), (fun i y => ∃ z, xs[i]? = some z ∧ y = .bool (q z)),
    Nat.le_sub_one_of_lt hLlt, by show _ < (s₁.heap.push ob).objs.size; rw [sz]; exact Nat.lt_of_le_of_lt (Nat.sub_le _ _) (Nat.lt_succ_self _), rfl, W, hst, ?_, ?_, ?_, ?_, ?_, ?_⟩
  · intro b hb
    show b < (s₁.heap.push ob).objs.size
    rw [sz]
    rcases hfp b hb with rfl | ⟨o, ho, _⟩
    · exact Nat.lt_succ_self _
    · exact Nat.lt_succ_of_lt (Heap.lt_size ho)
  · intro hb
    rcases hfp P hb with e | ⟨o, ho, hc⟩
    · rw [e] at hPlt; exact Nat.lt_irrefl _ hPlt
    · rw [(G₁.objs P _ hP).1.1] at ho; cases ho; cases hc
  · intro b hb
    have e1 : b = s₁.heap.objs.size := by simpa using hb
    rw [e1]; exact Nat.sub_one_lt_of_lt hLlt
  · intro c' C A' E' i v' t m₂ hA hD hU hP' hF hm hLC hk
    rw [List.forIn_nil]
    exact wpAny_pure ⟨rfl, t.heap, t.toks, rfl, fun _ _ e => e⟩
  · intro c' C A' E' i v' t m₂ hA hD hU hP' _ hF hm hLC hk
    obtain ⟨y, hy, ry⟩ := hPi i v' hP'
    obtain ⟨mb, hmb, hE⟩ := hel y (List.mem_of_getElem? hy)
    have hC : c.b.get? C = none := by
      cases hq : c.b.get? C with
      | none => rfl
      | some o =>
        have h1 := Heap.lt_size hq
        have h2 := hF.above
        have h3 : (regrown gh P (ps ++ #[rawInt gpos.line, rawInt gpos.col, .ref c'])).objs.size = gh.objs.size := Heap.size_after_update ..
        rw [h3, hg3] at h2
        exact absurd h1 (Nat.not_lt.mpr h2)
    refine wpAny_mono (gen_elt (c := c) (E' := E') K G₁ F₁ hPb ⟨gh, ps, hP⟩ ry hF.ns hm (fun b o hb e => hk b o hb (fun hm' => by
      have e1 : b = s₁.heap.objs.size := by simpa using hm'
      rw [e1, get_size] at e; cases e) (kp b o e)) hC hmb (fun c'' e1 e2 e3 => hE C (.ref c') A' c'' hA hD hU e1 e2 e3)) (fun w s₃ z => ⟨⟨y, hy, z.1⟩, z.2⟩) fun _ _ e => e
  · intro c₁ a s₅ B' F' G' hos hk X
    have e1 : passing (fun _ => true) xs.length 0 = List.range xs.length := by simp [passing]
    rw [e1, List.length_range] at X
    refine hR mr s₁ H₁ xs q a c₁ s₅ G₁ F₁ t₁ hn₁ hP hrst B' F' G' hos (fun b o hb e => hk b o hb (kp b o e)) (Nat.le_sub_one_of_lt hLlt) (Nat.lt_of_le_of_lt (Nat.zero_le _) hLlt) (X.imp ?_)
    rintro j y ⟨i, hj, z, hz, e⟩
    have hij : i = j := by
      have hlt := (List.getElem?_eq_some_iff.mp hj).1
      rw [List.length_range] at hlt
      simpa [hlt] using hj.symm
    subst hij
    exact ⟨z, hz, e⟩

theorem gen_after {h₁ gh : Heap} {cc P : Addr} {ps : Array Value} {mr : Str → Option Value} {s s₁ s₅ : Shared} {H₁ : AH} {c₁ : Addr} {gpos : Pos} {b : Bool} (hgp : ∀ g d, c.gp g d ↔ AllBare g) (G₁ : GH c H₁ s₁) (t₁ : Tr H s H₁ s₁) (hP : H₁ P = some (.tab gh ps))
    (B : Based h₁ (regrown gh P (ps ++ #[rawInt gpos.line, rawInt gpos.col, .ref c₁])) cc P (ps ++ #[rawInt gpos.line, rawInt gpos.col, .ref c₁]))
    (F : Fr (regrown gh P (ps ++ #[rawInt gpos.line, rawInt gpos.col, .ref c₁])) env.locals s₅.heap mr) (hb : AllBare s₅.gens) (hos : s₅.os = s₁.os) (hk : ∀ b o, b ≠ P → s₁.heap.get? b = some o → s₅.heap.get? b = some o)
    (hq : Q (.bool b) (upd H₁ P (.tab (regrown gh P (ps ++ #[rawInt gpos.line, rawInt gpos.col, .ref c₁])) (ps ++ #[rawInt gpos.line, rawInt gpos.col, .ref c₁])))) : Ends c H s Q (.bool b) s₅ := by
  obtain ⟨hp1, hg2, hg3, hg4⟩ := (G₁.objs P _ hP).1
  have hPb := (G₁.objs P _ hP).2
  have tk : TupKept s₁.heap s₅.heap := fun a o hc _ e => hk a o (by
    rintro rfl
    rw [hp1] at e; cases e
    rcases hc with hc | hc <;> simp at hc) e
  refine ⟨.bool b, _, by simp [VR], ⟨fun a o e => ?_, fun a o e => ?_, (hgp _ _).mpr hb⟩, t₁.trans ⟨fun a o e1 e => hk a o (by rintro rfl; rw [hP] at e1; cases e1) e, fun a o e1 e => by rw [upd_ne (by rintro rfl; rw [hP] at e1; cases e1)]; exact e1, hos⟩, hq⟩
  · by_cases ha : a = P
    · subst ha
      rw [upd_self] at e
      cases e
      exact ⟨⟨F.keep _ _ B.tab.2, B.tab.2, (Heap.size_after_update ..).trans hg3, fun x hx => (Heap.get?_update_other _ _ (Ne.symm hx)).trans (hg4 x hx)⟩, hPb⟩
    · rw [upd_ne ha] at e
      exact ⟨(G₁.objs a o e).1.kept tk fun ob => hk a ob ha, (G₁.objs a o e).2⟩
  · exact hk a o (by rintro rfl; rw [hPb] at e; cases e) (G₁.keep a o e)

theorem all_list (q : AV → Bool) (xs : List AV) : (List.range xs.length).all (fun j => match xs[j]? with | some z => q z | none => true) = xs.all q := by
  have := all_rangeD xs q
  rw [← this]; congr 1; funext j; cases xs[j]? <;> rfl
theorem any_list (q : AV → Bool) (xs : List AV) : (List.range xs.length).any (fun j => match xs[j]? with | some z => q z | none => false) = xs.any q := by
  have := any_rangeD xs q
  rw [← this]; congr 1; funext j; cases xs[j]? <;> rfl

theorem eok_all {iter elt : Expr} {x : Str} {p pos px gpos : Pos} {scope : Scope} {cl : List (Str × Addr)} {h₁ gh : Heap} {cc P bm : Addr} {ob : Obj} {mg : Str → Option Value} {ps : Array Value}
    (hgp : ∀ g d, c.gp g d ↔ AllBare g) (hh : A.handled = none) (hroom : A.depth < recursionLimit) (g : GName c env "all" (.builtin "all")) (K : GClos env scope cl x) (hcode : env.code = .ref cc) (hM : BMod c.b env.globals mg bm ob) (hlim : c.b.NoLimit) (habove : c.b.objs.size ≤ env.locals)
    (hT : H P = some (.tab gh ps)) (B : Based h₁ gh cc P ps) (hnf : codeAmong gpos ps.toList = none)
    (h : EOk c A env iter m H fun v H₁ => ∃ xs q, GenPre c A env m elt x scope cl P gh ps v H₁ xs q ∧ ∀ g' c₁, Based h₁ g' cc P (ps ++ #[rawInt gpos.line, rawInt gpos.col, .ref c₁]) → Q (.bool (xs.all q)) (upd H₁ P (.tab g' (ps ++ #[rawInt gpos.line, rawInt gpos.col, .ref c₁]))))
    (hs : ∀ x, genFold iter env x = pure x := by intro _; rfl) : EOk c A env (.Call (.Name "all" p) [.GeneratorExp elt [⟨.Name x px, iter, [], 0⟩] scope gpos] [] pos) m H Q := by
  intro s G F
  refine wpAny_Call_NameR (gname g G (Calls.callWith_builtin rfl (Calls.evalArgs_plain (Calls.spliced_cons (gen_core (Rst := fun H₁ xs q => ∀ g' c₁, Based h₁ g' cc P (ps ++ #[rawInt gpos.line, rawInt gpos.col, .ref c₁]) → Q (.bool (xs.all q)) (upd H₁ P (.tab g' (ps ++ #[rawInt gpos.line, rawInt gpos.col, .ref c₁])))) hgp hh hroom K hcode hM hlim habove hT B hnf G F h ?_ hs)))))
  intro mr s₁ H₁ xs q a c₁ s₅ G₁ F₁ t₁ hn₁ hP hrst B' F' G' hos hk hL h0 X
  refine Calls.spliced_nil ?_
  have hk' : ∀ s' : Shared, (∀ b o, b ≤ s₁.heap.objs.size - 1 → s₅.heap.get? b = some o → s'.heap.get? b = some o) → ∀ b o, b ≠ P → s₁.heap.get? b = some o → s'.heap.get? b = some o := fun s' k b o hb e => k b o (Nat.le_sub_one_of_lt (Heap.lt_size e)) (hk b o hb e)
  refine all_rowsK F' G' X hL (fun j => match xs[j]? with | some z => q z | none => true) (fun j v s Q E hv hQ => ?_) fun s' F'' G'' hos' k' => ?_
  · obtain ⟨z, hz, rfl⟩ := hv
    simp only [hz] at hQ
    exact wpAny_truthy_bool hQ
  · rw [all_list]
    exact gen_after hgp G₁ t₁ hP B' F'' G'' (hos'.trans hos) (hk' s' k') (hrst _ _ B')

theorem eok_any {iter elt : Expr} {x : Str} {p pos px gpos : Pos} {scope : Scope} {cl : List (Str × Addr)} {h₁ gh : Heap} {cc P bm : Addr} {ob : Obj} {mg : Str → Option Value} {ps : Array Value}
    (hgp : ∀ g d, c.gp g d ↔ AllBare g) (hh : A.handled = none) (hroom : A.depth < recursionLimit) (g : GName c env "any" (.builtin "any")) (K : GClos env scope cl x) (hcode : env.code = .ref cc) (hM : BMod c.b env.globals mg bm ob) (hlim : c.b.NoLimit) (habove : c.b.objs.size ≤ env.locals)
    (hT : H P = some (.tab gh ps)) (B : Based h₁ gh cc P ps) (hnf : codeAmong gpos ps.toList = none)
    (h : EOk c A env iter m H fun v H₁ => ∃ xs q, GenPre c A env m elt x scope cl P gh ps v H₁ xs q ∧ ∀ g' c₁, Based h₁ g' cc P (ps ++ #[rawInt gpos.line, rawInt gpos.col, .ref c₁]) → Q (.bool (xs.any q)) (upd H₁ P (.tab g' (ps ++ #[rawInt gpos.line, rawInt gpos.col, .ref c₁]))))
    (hs : ∀ x, genFold iter env x = pure x := by intro _; rfl) : EOk c A env (.Call (.Name "any" p) [.GeneratorExp elt [⟨.Name x px, iter, [], 0⟩] scope gpos] [] pos) m H Q := by
  intro s G F
  refine wpAny_Call_NameR (gname g G (Calls.callWith_builtin rfl (Calls.evalArgs_plain (Calls.spliced_cons (gen_core (Rst := fun H₁ xs q => ∀ g' c₁, Based h₁ g' cc P (ps ++ #[rawInt gpos.line, rawInt gpos.col, .ref c₁]) → Q (.bool (xs.any q)) (upd H₁ P (.tab g' (ps ++ #[rawInt gpos.line, rawInt gpos.col, .ref c₁])))) hgp hh hroom K hcode hM hlim habove hT B hnf G F h ?_ hs)))))
  intro mr s₁ H₁ xs q a c₁ s₅ G₁ F₁ t₁ hn₁ hP hrst B' F' G' hos hk hL h0 X
  refine Calls.spliced_nil ?_
  have hk' : ∀ s' : Shared, (∀ b o, b ≤ s₁.heap.objs.size - 1 → s₅.heap.get? b = some o → s'.heap.get? b = some o) → ∀ b o, b ≠ P → s₁.heap.get? b = some o → s'.heap.get? b = some o := fun s' k b o hb e => k b o (Nat.le_sub_one_of_lt (Heap.lt_size e)) (hk b o hb e)
  refine any_rowsK F' G' X hL (fun j => match xs[j]? with | some z => q z | none => false) (fun j v s Q E hv hQ => ?_) fun s' F'' G'' hos' k' => ?_
  · obtain ⟨z, hz, rfl⟩ := hv
    simp only [hz] at hQ
    exact wpAny_truthy_bool hQ
  · rw [any_list]
    exact gen_after hgp G₁ t₁ hP B' F'' G'' (hos'.trans hos) (hk' s' k') (hrst _ _ B')
end
end Mine
namespace Mine
open PySem PySem.W PySem.Calls PyProof.Rows

structure FD where
  args : Arguments
  body : List Stmt
  sc : Scope
noncomputable def FD.nil : FD := ⟨default, [], default⟩

noncomputable def defAt (i : Nat) : FD := match PySem.Challenge.pw_sx_zcanopyofobjects_4.main.body.drop i with
  | .FunctionDef _ a b _ _ _ s _ _ _ :: _ => ⟨a, b, s⟩
  | _ => .nil
noncomputable def methAt (i j : Nat) : FD := match PySem.Challenge.pw_sx_zcanopyofobjects_4.main.body.drop i with
  | .ClassDef _ _ _ b _ _ _ _ _ _ _ :: _ => (match b.drop j with
    | .FunctionDef _ a b _ _ _ s _ _ _ :: _ => ⟨a, b, s⟩
    | _ => .nil)
  | _ => .nil

noncomputable def fenv (sc : Scope) (L fa : Addr) (q : Str) (cd : Value) : Env := newEnv sc L mainGlobals (cellsFrom (L + 1) sc.names []) q (some fa) cd none builtinsNs

/-- the def at an address -/
noncomputable def FnAt (K : Frag) (fa : Addr) (F : FD) : Prop := ∃ name qual doc pm an cdv ct oc od osl, K.lookup fa = some ⟨oc, od, .func (fnOf name qual F.args F.body F.sc .none .none doc pm an cdv ct), osl⟩ ∧ codeIn K cdv qual = true

/-- how a def takes its arguments -/
structure Takes (F : FD) (ps : List Str) : Prop where
  bind : ∀ name qual doc pm an cdv ct (rvs : List Value), rvs.length = ps.length → bindArgs (fnOf name qual F.args F.body F.sc .none .none doc pm an cdv ct) ⟨rvs, []⟩ = pure (ps.zip rvs)
  nodup : ps.Nodup
  kinds : ∀ L x, x ∈ ps → F.sc.names.lookup x = some .local ∨ (F.sc.names.lookup x = some .cell ∧ ((cellsFrom (L + 1) F.sc.names []).lookup x).isSome = true)
  co : F.sc.isCoroutine = false
  gen : F.sc.isGenerator = false
  kind : F.sc.kind = .function

/-- room -/
structure AOk (k : Nat) (A : Around) : Prop where
  h : A.handled = none
  d : A.depth ≤ 301 + k
  u : A.units ≤ 4 + 10 * k
theorem AOk.deeper {k : Nat} {A : Around} (x : AOk k A) (env : Env) : AOk (k + 1) (A.deeper env) := ⟨x.h, by rw [show (A.deeper env).depth = A.depth + 1 from rfl]; have := x.d; omega, by rw [show (A.deeper env).units = A.units + 3 from rfl]; have := x.u; omega⟩
theorem AOk.make {k : Nat} {A : Around} (x : AOk k A) (C : Addr) (vals : List Value) : AOk (k + 1) (A.under (.builtin "type.__call__" ⟨.ref C :: vals, []⟩)) :=
  ⟨x.h, by have := x.d; show A.depth + 1 ≤ _; omega, by have := x.u; show A.units + (Code.builtin "type.__call__" ⟨.ref C :: vals, []⟩).cUnits ≤ _; have h : (Code.builtin "type.__call__" ⟨.ref C :: vals, []⟩).cUnits ≤ 10 := Nat.le_of_ble_eq_true rfl; omega⟩

section
variable {c : Cx} {A : Around} {env : Env} {m : LM} {H : AH} {Q : AV → AH → Prop} {K : Frag}

theorem call_fn {fa : Addr} {F : FD} {ps : List Str} {vs fvs : List AV} {first : List Value} (X : K.In c.b) (hlim : c.b.NoLimit) (f : FnAt K fa F) (T : Takes F ps) (hroom : A.depth < recursionLimit) (hlen : (fvs ++ vs).length = ps.length) (hfirst : ∀ h, VRs c.b h fvs first)
    (hb : ∀ L q cd, SOk c (A.deeper (fenv F.sc L fa q cd)) (fenv F.sc L fa q cd) (execs F.body (fenv F.sc L fa q cd)) (fun x => (ps.zip (fvs ++ vs)).lookup x) H fun fl _ H' => Q (retOf fl) H') : CodeOk c A (.ref fa) first vs H Q := by
  obtain ⟨name, qual, doc, pm, an, cdv, ct, oc, od, osl, hk, hcd⟩ := f
  refine code_of_def (fd := fnOf name qual F.args F.body F.sc .none .none doc pm an cdv ct) (body := F.body) (ps := ps) ⟨⟨_, X _ _ hk, rfl⟩, hlim, codeRec_of X hcd, rfl, rfl, T.bind name qual doc pm an cdv ct, T.nodup, T.kinds, T.co, T.gen, T.kind⟩ hroom hlen hfirst fun L => hb L _ _
end

/-- where things lie -/
structure Ads where
  node : Addr
  canopy : Addr
  nInit : Addr
  nLeaf : Addr
  cInit : Addr
  cAdopt : Addr
  cHeight : Addr
  cShape : Addr
  cKeys : Addr
  cLevel : Addr
  cCheck : Addr
  cCount : Addr
  cFlatB : Addr
  cFlat : Addr
  lSizes : Addr
  lRow : Addr
  lCut : Addr
  lLay : Addr
  lTwig : Addr
  lTree : Addr
  shapes : Addr
  hurts : Addr

noncomputable def gtab (a : Ads) : List (Str × Value) := [("Node", .ref a.node), ("Canopy", .ref a.canopy), ("_law_sizes", .ref a.lSizes), ("_law_row", .ref a.lRow), ("_law_cut", .ref a.lCut), ("_law_lay", .ref a.lLay), ("_law_twig", .ref a.lTwig), ("_law_tree", .ref a.lTree), ("_law_SHAPES", .ref a.shapes), ("_law_HURTS", .ref a.hurts)]
noncomputable def btab : List (Str × Value) := [("len", .builtin "len"), ("range", .type "range"), ("list", .type "list"), ("sum", .builtin "sum"), ("all", .builtin "all"), ("any", .builtin "any"), ("max", .builtin "max"), ("min", .builtin "min"), ("type", .type "type"), ("bool", .type "bool"), ("int", .type "int")]

noncomputable def nodeFields : List Str := ["key_row", "value_row", "children"]
noncomputable def canFields : List Str := ["t", "root", "size"]

noncomputable def mNInit : FD := methAt 2 0
noncomputable def mNLeaf : FD := methAt 2 1
noncomputable def mCInit : FD := methAt 3 0
noncomputable def mCAdopt : FD := methAt 3 1
noncomputable def mCHeight : FD := methAt 3 3
noncomputable def mCShape : FD := methAt 3 15
noncomputable def mCKeys : FD := methAt 3 16
noncomputable def mCLevel : FD := methAt 3 17
noncomputable def mCCheck : FD := methAt 3 18
noncomputable def mCCount : FD := methAt 3 20
noncomputable def mCFlatB : FD := methAt 3 24
noncomputable def mCFlat : FD := methAt 3 25
noncomputable def mLSizes : FD := defAt 7
noncomputable def mLRow : FD := defAt 8
noncomputable def mLCut : FD := defAt 9
noncomputable def mLLay : FD := defAt 10
noncomputable def mLTwig : FD := defAt 11
noncomputable def mLTree : FD := defAt 12

noncomputable def aInts (ns : List Int) : AV := .tup (ns.map .int)
noncomputable def SHAPES : List (List Int) := [[1], [2], [3], [2, 2], [3, 1], [1, 3], [3, 3]]
noncomputable def HURTS : List (List Int) := [[0, 0, 0], [0, 0, 0], [0, 0, 0], [0, 0, 0], [1, 0, 0], [2, 0, 0], [0, 1, 0], [0, 2, 0], [0, 0, 1], [0, 0, 2], [0, 0, 0], [0, 0, 0]]

/-- a method of a class -/
structure MethAt (K : Frag) (C : Addr) (name : Str) (fa : Addr) (F : FD) : Prop where
  find : findIn K (.ref C) name = some (some (.ref fa))
  typ : typeIn K (.ref fa) = some (.type "function")
  at_ : FnAt K fa F

/-- the text's top -/
structure Prog (c : Cx) (K : Frag) (a : Ads) : Prop where
  x : K.In c.b
  nolimit : c.b.NoLimit
  g : ∃ mg mb, c.b.Ns mainGlobals mg ∧ c.b.Ns builtinsNs mb ∧ (∀ p ∈ gtab a, mg p.1 = some p.2) ∧ (∀ p ∈ btab, mg p.1 = none ∧ mb p.1 = some p.2)
  node : ClsOk K a.node nodeFields
  canopy : ClsOk K a.canopy canFields
  nodeMakes : makesIn K a.node = true ∧ keepIn K (.ref a.node) = true
  canMakes : makesIn K a.canopy = true ∧ keepIn K (.ref a.canopy) = true
  nInit : MethAt K a.node "__init__" a.nInit mNInit
  nLeaf : MethAt K a.node "is_leaf" a.nLeaf mNLeaf
  cInit : MethAt K a.canopy "__init__" a.cInit mCInit
  cAdopt : MethAt K a.canopy "adopt" a.cAdopt mCAdopt
  cHeight : MethAt K a.canopy "height" a.cHeight mCHeight
  cShape : MethAt K a.canopy "shape_ok" a.cShape mCShape
  cKeys : MethAt K a.canopy "keys_ok" a.cKeys mCKeys
  cLevel : MethAt K a.canopy "leaf_level" a.cLevel mCLevel
  cCheck : MethAt K a.canopy "check" a.cCheck mCCheck
  cCount : MethAt K a.canopy "count_below" a.cCount mCCount
  cFlatB : MethAt K a.canopy "flat_below" a.cFlatB mCFlatB
  cFlat : MethAt K a.canopy "flat" a.cFlat mCFlat
  lSizes : FnAt K a.lSizes mLSizes
  lRow : FnAt K a.lRow mLRow
  lCut : FnAt K a.lCut mLCut
  lLay : FnAt K a.lLay mLLay
  lTwig : FnAt K a.lTwig mLTwig
  lTree : FnAt K a.lTree mLTree
  shapes : VR c.b c.b (.tup (SHAPES.map aInts)) (.ref a.shapes)
  hurts : VR c.b c.b (.tup (HURTS.map aInts)) (.ref a.hurts)

theorem Prog.gn {c : Cx} {K : Frag} {a : Ads} (P : Prog c K a) {env : Env} {x : Str} {v : Value} (hx : (x, v) ∈ gtab a) (hk : env.scope.kind = .function) (hg : env.kindOf x = some .globalImplicit) (he : env.globals = mainGlobals) (hd : (x == ("__debug__" : Str)) = false := by decide) : GName c env x v := by
  obtain ⟨mg, mb, h1, h2, h3, h4⟩ := P.g
  exact ⟨hk, hg, hd, mg, he ▸ h1, .inl (h3 _ hx)⟩
theorem Prog.bn {c : Cx} {K : Frag} {a : Ads} (P : Prog c K a) {env : Env} {x : Str} {v : Value} (hx : (x, v) ∈ btab) (hk : env.scope.kind = .function) (hg : env.kindOf x = some .globalImplicit) (he : env.globals = mainGlobals) (hb : env.builtins = builtinsNs) (hd : (x == ("__debug__" : Str)) = false := by decide) : GName c env x v := by
  obtain ⟨mg, mb, h1, h2, h3, h4⟩ := P.g
  exact ⟨hk, hg, hd, mg, he ▸ h1, .inr ⟨(h4 _ hx).1, mb, hb ▸ h2, (h4 _ hx).2⟩⟩

end Mine
namespace Mine
open PySem PySem.W PySem.Calls PyProof.Rows

theorem upd_upd (H : AH) (a : Addr) (o o' : AO) : upd (upd H a o) a o' = upd H a o' := by
  funext x; simp only [upd]; split <;> rfl
theorem upd_get {H : AH} {a x : Addr} {o o' : AO} (h : H a = none) (hx : H x = some o) : upd H a o' x = some o := by
  rw [upd_ne (by rintro rfl; rw [h] at hx; cases hx)]; exact hx
theorem upd_le {H : AH} {a : Addr} {o : AO} (h : H a = none) : ∀ x ob, H x = some ob → upd H a o x = some ob := fun _ _ hx => upd_get h hx

inductive Tree where
  | node (ks vs : List Int) (kids : List Tree)

noncomputable def fld (k v c : Addr) : List (Str × AV) := [("key_row", .ref k), ("value_row", .ref v), ("children", .ref c)]

mutual
noncomputable def TreeAt (a : Ads) (H : AH) : Tree → Addr → Prop
  | .node ks vs kids, x => ∃ d k v c cs, H x = some (.inst a.node d) ∧ H d = some (.dict (fld k v c)) ∧ H k = some (.lst (ks.map .int)) ∧ H v = some (.lst (vs.map .int)) ∧ H c = some (.lst (cs.map .ref)) ∧ TreesAt a H kids cs
noncomputable def TreesAt (a : Ads) (H : AH) : List Tree → List Addr → Prop
  | [], cs => cs = []
  | T :: Ts, cs => ∃ x r, cs = x :: r ∧ TreeAt a H T x ∧ TreesAt a H Ts r
end
mutual
theorem TreeAt.mono {a : Ads} {H H' : AH} (k : ∀ x o, H x = some o → H' x = some o) : ∀ {T : Tree} {x : Addr}, TreeAt a H T x → TreeAt a H' T x
  | .node ks vs kids, x, e => by
    simp only [TreeAt] at e ⊢
    obtain ⟨d, kk, v, c, cs, h1, h2, h3, h4, h5, h6⟩ := e
    exact ⟨d, kk, v, c, cs, k _ _ h1, k _ _ h2, k _ _ h3, k _ _ h4, k _ _ h5, TreesAt.mono k h6⟩
theorem TreesAt.mono {a : Ads} {H H' : AH} (k : ∀ x o, H x = some o → H' x = some o) : ∀ {Ts : List Tree} {cs : List Addr}, TreesAt a H Ts cs → TreesAt a H' Ts cs
  | [], _, e => by simpa only [TreesAt] using e
  | T :: Ts, _, e => by
    simp only [TreesAt] at e ⊢
    obtain ⟨x, r, rfl, h1, h2⟩ := e
    exact ⟨x, r, rfl, TreeAt.mono k h1, TreesAt.mono k h2⟩
end
theorem TreesAt.length {a : Ads} {H : AH} : ∀ {Ts : List Tree} {cs : List Addr}, TreesAt a H Ts cs → cs.length = Ts.length
  | [], _, e => by simp only [TreesAt] at e; subst e; rfl
  | T :: Ts, _, e => by
    simp only [TreesAt] at e
    obtain ⟨x, r, rfl, h1, h2⟩ := e
    simp [TreesAt.length h2]
theorem TreesAt.get {a : Ads} {H : AH} : ∀ {Ts : List Tree} {cs : List Addr}, TreesAt a H Ts cs → ∀ {i : Nat} {T : Tree}, Ts[i]? = some T → ∃ x, cs[i]? = some x ∧ TreeAt a H T x
  | [], _, e, i, T, h => by simp at h
  | T :: Ts, _, e, 0, T', h => by
    simp only [TreesAt] at e
    obtain ⟨x, r, rfl, h1, h2⟩ := e
    simp at h; subst h
    exact ⟨x, rfl, h1⟩
  | T :: Ts, _, e, i + 1, T', h => by
    simp only [TreesAt] at e
    obtain ⟨x, r, rfl, h1, h2⟩ := e
    simp at h
    obtain ⟨y, hy, hy'⟩ := TreesAt.get h2 h
    exact ⟨y, by simpa using hy, hy'⟩

mutual
noncomputable def nodes : Tree → Nat
  | .node _ _ kids => nodesL kids + 1
noncomputable def nodesL : List Tree → Nat
  | [] => 0
  | T :: Ts => nodes T + nodesL Ts
end
theorem nodesL_append : ∀ Ts Us : List Tree, nodesL (Ts ++ Us) = nodesL Ts + nodesL Us
  | [], Us => by simp [nodesL]
  | T :: Ts, Us => by simp [nodesL, nodesL_append Ts Us]; omega
theorem nodes_pos : ∀ T : Tree, 0 < nodes T
  | .node _ _ _ => by simp [nodes]
theorem nodesL_ge : ∀ Ts : List Tree, Ts.length ≤ nodesL Ts
  | [] => Nat.le_refl _
  | T :: Ts => by
    have := nodes_pos T
    have := nodesL_ge Ts
    simp [nodesL]; omega

mutual
noncomputable def cnt : Tree → Int
  | .node ks _ kids => ks.length + cntL kids
noncomputable def cntL : List Tree → Int
  | [] => 0
  | T :: Ts => cnt T + cntL Ts
end
theorem cntL_append : ∀ Ts Us : List Tree, cntL (Ts ++ Us) = cntL Ts + cntL Us
  | [], Us => by simp [cntL]
  | T :: Ts, Us => by simp [cntL, cntL_append Ts Us]; omega

section
variable {c : Cx} {A : Around} {env : Env} {m : LM} {H : AH} {Q : AV → AH → Prop} {K : Frag} {a : Ads}

theorem CodeOk.forget {f : Value} {first : List Value} {vs : List AV} (h : CodeOk c A f first vs H fun v H' => ∃ H'', (∀ x o, H'' x = some o → H' x = some o) ∧ Q v H'') : CodeOk c A f first vs H Q := fun s rvs G r =>
  codeAny_mono (h s rvs G r) fun res s' z => by
    rcases res with er | (_ | _ | _ | v)
    · exact z
    · exact z
    · exact z
    · exact z
    · obtain ⟨av, H', rv, G', t', H'', k, q⟩ := z
      exact ⟨av, H'', rv, G'.mono k, t'.less k, q⟩

/-- stack[len(stack) - 1] -/
theorem eok_last {p1 p2 p3 p4 p5 p6 p7 : Pos} {k : Nat} {st : Addr} {ys : List AV} {y : AV} (g : GName c env "len" (.builtin "len")) (hm : m "stack" = some (.ref st)) (hH : H st = some (.lst (ys ++ [y]))) (hsz : ys.length < 2 ^ 24) (h : Q y H) (hk : env.scope.kind = .function := by rfl) :
    EOk c A env (.Subscript (.Name "stack" p1) (.BinOp (.Call (.Name "len" p2) [.Name "stack" p3] [] p4) .Sub (.Constant (.int 1) k p5) p6) p7) m H Q := by
  refine eok_item_lst (eok_name hm ?_ hk)
  refine eok_binop (eok_callB g (esok_cons (eok_name hm ?_ hk)))
  refine esok_nil (cok_len (n := ys.length + 1) (by simp [alen, hH]) (by omega) ?_)
  refine eok_int (bin_sub ?_)
  exact ⟨st, ys ++ [y], _, y, rfl, rfl, hH, by omega, by omega, by simp, h⟩

theorem sok_pop {p1 p2 p3 p4 p5 p6 p7 p8 : Pos} {k : Nat} {st : Addr} {ys : List AV} {y : AV} {Q : AFl → LM → AH → Prop} (g : GName c env "len" (.builtin "len")) (hm : m "stack" = some (.ref st)) (hH : H st = some (.lst (ys ++ [y]))) (hsz : ys.length < 2 ^ 24) (h : Q .next m (upd H st (.lst ys))) (hk : env.scope.kind = .function := by rfl) :
    SOk c A env (exec (.Delete [.Subscript (.Name "stack" p1) (.BinOp (.Call (.Name "len" p2) [.Name "stack" p3] [] p4) .Sub (.Constant (.int 1) k p5) p6) p7] p8) env) m H Q := by
  refine sok_del (eok_name hm ?_ hk)
  refine eok_binop (eok_callB g (esok_cons (eok_name hm ?_ hk)))
  refine esok_nil (cok_len (n := ys.length + 1) (by simp [alen, hH]) (by omega) ?_)
  refine eok_int (bin_sub ?_)
  refine ⟨st, ys ++ [y], _, rfl, rfl, hH, by omega, by simp; omega, by simp [sizeLine]; omega, ?_⟩
  have e : (ys ++ [y]).eraseIdx (((ys.length + 1 : Nat) : Int) - 1).toNat = ys := by
    rw [show (((ys.length + 1 : Nat) : Int) - 1).toNat = ys.length by omega]
    rw [List.eraseIdx_append_of_length_le (Nat.le_refl _)]
    simp
  rw [e]; exact h
end
end Mine
namespace Mine
open PySem PySem.W PySem.Calls PyProof.Rows

noncomputable def scOk (sc : Scope) (ls gs : List Str) : Bool := sc.kind == .function && !sc.isCoroutine && !sc.isGenerator && ls.all (fun x => sc.names.lookup x == some .local) && gs.all (fun x => sc.names.lookup x == some .globalImplicit) && sc.names.all (fun x => x.2 != .cell)

theorem len1 {P : List Value → Prop} (h : ∀ a, P [a]) : ∀ rvs : List Value, rvs.length = 1 → P rvs := fun rvs e => by match rvs, e with | [a], _ => exact h a
theorem len2 {P : List Value → Prop} (h : ∀ a b, P [a, b]) : ∀ rvs : List Value, rvs.length = 2 → P rvs := fun rvs e => by match rvs, e with | [a, b], _ => exact h a b
theorem len3 {P : List Value → Prop} (h : ∀ a b d, P [a, b, d]) : ∀ rvs : List Value, rvs.length = 3 → P rvs := fun rvs e => by match rvs, e with | [a, b, d], _ => exact h a b d
theorem len4 {P : List Value → Prop} (h : ∀ a b d e, P [a, b, d, e]) : ∀ rvs : List Value, rvs.length = 4 → P rvs := fun rvs e => by match rvs, e with | [a, b, d, e], _ => exact h a b d e
theorem len5 {P : List Value → Prop} (h : ∀ a b d e g, P [a, b, d, e, g]) : ∀ rvs : List Value, rvs.length = 5 → P rvs := fun rvs e => by match rvs, e with | [a, b, d, e, g], _ => exact h a b d e g

/-- a frame of a def without cells -/
structure Env0 (env : Env) (ls gs : List Str) : Prop where
  k : env.scope.kind = .function
  l : ∀ x ∈ ls, env.kindOf x = some .local
  g : ∀ x ∈ gs, env.kindOf x = some .globalImplicit
  gl : env.globals = mainGlobals
  b : env.builtins = builtinsNs
  i : interactive env = false
  c : env.cells = []

theorem cellsFrom_none : ∀ (names : List (Str × NameKind)) (n : Nat) (acc : List (Str × Addr)), names.all (fun x => x.2 != .cell) = true → cellsFrom n names acc = acc
  | [], _, _, _ => rfl
  | (x, k) :: r, n, acc, h => by
    rw [List.all_cons, Bool.and_eq_true] at h
    unfold cellsFrom
    have : (k == NameKind.cell) = false := by simpa using h.1
    rw [this]
    exact cellsFrom_none r n acc h.2

theorem env0 {sc : Scope} {ls gs : List Str} (h : scOk sc ls gs = true) (L fa : Addr) (q : Str) (cd : Value) : Env0 (fenv sc L fa q cd) ls gs := by
  unfold scOk at h
  simp only [Bool.and_eq_true] at h
  obtain ⟨⟨⟨⟨⟨h1, _⟩, _⟩, h2⟩, h3⟩, h4⟩ := h
  have hk : sc.kind = .function := by simpa using h1
  refine ⟨hk, fun x hx => ?_, fun x hx => ?_, rfl, rfl, ?_, cellsFrom_none _ _ _ h4⟩
  · have := List.all_eq_true.mp h2 x hx
    show sc.names.lookup x = _
    simpa using this
  · have := List.all_eq_true.mp h3 x hx
    show sc.names.lookup x = _
    simpa using this
  · show (sc.kind == .module && _) = false
    rw [hk]; rfl

theorem takes_of {F : FD} {ps ls gs : List Str} (h : scOk F.sc ls gs = true) (hps : ∀ x ∈ ps, x ∈ ls) (hn : ps.Nodup)
    (hb : ∀ name qual doc pm an cdv ct (rvs : List Value), rvs.length = ps.length → bindArgs (fnOf name qual F.args F.body F.sc .none .none doc pm an cdv ct) ⟨rvs, []⟩ = pure (ps.zip rvs)) : Takes F ps := by
  unfold scOk at h
  simp only [Bool.and_eq_true] at h
  obtain ⟨⟨⟨⟨⟨h1, h5⟩, h6⟩, h2⟩, h3⟩, h4⟩ := h
  exact ⟨hb, hn, fun L x hx => .inl (by simpa using List.all_eq_true.mp h2 x (hps x hx)), by simpa using h5, by simpa using h6, by simpa using h1⟩

section
variable {c : Cx} {A : Around} {env : Env} {m : LM} {H : AH} {Q : AV → AH → Prop} {K : Frag} {a : Ads} {ls gs : List Str}

theorem Env0.bn (E : Env0 env ls gs) (P : Prog c K a) {x : Str} {v : Value} (hx : (x, v) ∈ btab) (hg : x ∈ gs) (hd : (x == ("__debug__" : Str)) = false := by decide) : GName c env x v := P.bn hx E.k (E.g x hg) E.gl E.b hd
theorem Env0.gn (E : Env0 env ls gs) (P : Prog c K a) {x : Str} {v : Value} (hx : (x, v) ∈ gtab a) (hg : x ∈ gs) (hd : (x == ("__debug__" : Str)) = false := by decide) : GName c env x v := P.gn hx E.k (E.g x hg) E.gl hd
theorem Env0.len_ (E : Env0 env ls gs) (P : Prog c K a) (h : ("len" : Str) ∈ gs := by simp) : GName c env "len" (.builtin "len") := E.bn P (by repeat (first | exact List.Mem.head _ | apply List.Mem.tail)) h
theorem Env0.range_ (E : Env0 env ls gs) (P : Prog c K a) (h : ("range" : Str) ∈ gs := by simp) : GName c env "range" (.type "range") := E.bn P (by repeat (first | exact List.Mem.head _ | apply List.Mem.tail)) h
theorem Env0.list_ (E : Env0 env ls gs) (P : Prog c K a) (h : ("list" : Str) ∈ gs := by simp) : GName c env "list" (.type "list") := E.bn P (by repeat (first | exact List.Mem.head _ | apply List.Mem.tail)) h
theorem Env0.sum_ (E : Env0 env ls gs) (P : Prog c K a) (h : ("sum" : Str) ∈ gs := by simp) : GName c env "sum" (.builtin "sum") := E.bn P (by repeat (first | exact List.Mem.head _ | apply List.Mem.tail)) h
theorem Env0.max_ (E : Env0 env ls gs) (P : Prog c K a) (h : ("max" : Str) ∈ gs := by simp) : GName c env "max" (.builtin "max") := E.bn P (by repeat (first | exact List.Mem.head _ | apply List.Mem.tail)) h
theorem Env0.min_ (E : Env0 env ls gs) (P : Prog c K a) (h : ("min" : Str) ∈ gs := by simp) : GName c env "min" (.builtin "min") := E.bn P (by repeat (first | exact List.Mem.head _ | apply List.Mem.tail)) h
theorem Env0.all_ (E : Env0 env ls gs) (P : Prog c K a) (h : ("all" : Str) ∈ gs := by simp) : GName c env "all" (.builtin "all") := E.bn P (by repeat (first | exact List.Mem.head _ | apply List.Mem.tail)) h
theorem Env0.any_ (E : Env0 env ls gs) (P : Prog c K a) (h : ("any" : Str) ∈ gs := by simp) : GName c env "any" (.builtin "any") := E.bn P (by repeat (first | exact List.Mem.head _ | apply List.Mem.tail)) h
theorem Env0.type_ (E : Env0 env ls gs) (P : Prog c K a) (h : ("type" : Str) ∈ gs := by simp) : GName c env "type" (.type "type") := E.bn P (by repeat (first | exact List.Mem.head _ | apply List.Mem.tail)) h
theorem Env0.st (E : Env0 env ls gs) {x : Str} (hx : x ∈ ls) : Stores env x := .inl (E.l x hx)

theorem sc_nLeaf : scOk mNLeaf.sc ["self"] ["len"] = true := by decide +kernel
theorem sc_cCount : scOk mCCount.sc ["self", "node", "total", "stack", "here", "child"] ["len"] = true := by decide +kernel

/-- a node's fields -/
theorem node_attr {o : Expr} {name : Str} {pos : Pos} {x d k v cc : Addr} {w : AV} (P : Prog c K a) (h : EOk c A env o m H fun u H₁ => u = .ref x ∧ H₁ x = some (.inst a.node d) ∧ H₁ d = some (.dict (fld k v cc)) ∧ Q w H₁) (hn : name ∈ nodeFields) (hl : (fld k v cc).lookup name = some w)
    (he : eval (.Attribute o name pos) env = (do
      let ov ← eval o env
      standAt pos.atName
      let r ← holding [ov] (getAttr ov name true)
      letTemporaryGo o ov r
      pure r) := by with_unfolding_all rfl) : EOk c A env (.Attribute o name pos) m H Q :=
  eok_attr P.x (h.mono fun _ _ ⟨e, h1, h2, q⟩ => ⟨x, a.node, d, _, w, e, P.node, hn, h1, h2, hl, q⟩) he

theorem leaf_ok {k : Nat} {x d kk v cc : Addr} {cs : List Addr} (P : Prog c K a) (hA : AOk k A) (hk : k < 90) (hx : H x = some (.inst a.node d)) (hd : H d = some (.dict (fld kk v cc))) (hc : H cc = some (.lst (cs.map .ref))) (hsz : cs.length < 2 ^ 24) (h : Q (.bool (cs.length == 0)) H) :
    CodeOk c A (.ref a.nLeaf) [.ref x] [] H Q := by
  refine call_fn (ps := ["self"]) (fvs := [.ref x]) P.x P.nolimit P.nLeaf.at_ (takes_of sc_nLeaf (by decide) (by decide) (fun _ _ _ _ _ _ _ => len1 fun _ => rfl)) (by have := hA.d; simp [recursionLimit]; omega) rfl (fun h => by simp [VRs, VR]) fun L q cd => ?_
  have E := env0 sc_nLeaf L a.nLeaf q cd
  generalize fenv mNLeaf.sc L a.nLeaf q cd = env at E ⊢
  refine sok_cons (sok_return (eok_cmp (eok_callB (E.len_ P) (esok_cons ?_))))
  refine node_attr P (eok_name (v := .ref x) rfl ⟨rfl, hx, hd, ?_⟩ E.k) (by decide) (by rfl)
  refine esok_nil (cok_len (n := cs.length) (by simp [alen, hc]) (by omega) (eok_int (cmp_eq ?_)))
  show Q (.bool _) H
  have : ((cs.length : Int) == 0) = (cs.length == 0) := by
    rw [Bool.eq_iff_iff]; simp
  rw [this]; exact h

theorem TreesAt.zip {a : Ads} {H : AH} : ∀ {Ts : List Tree} {cs : List Addr}, TreesAt a H Ts cs → ∀ p ∈ Ts.zip cs, TreeAt a H p.1 p.2
  | [], _, e, p, hp => by simp at hp
  | T :: Ts, _, e, p, hp => by
    simp only [TreesAt] at e
    obtain ⟨x, r, rfl, h1, h2⟩ := e
    rcases List.mem_cons.mp hp with rfl | hp
    · exact h1
    · exact TreesAt.zip h2 p hp
mutual
theorem cnt_nonneg : ∀ T : Tree, 0 ≤ cnt T
  | .node ks _ kids => by have := cntL_nonneg kids; simp only [cnt]; omega
theorem cntL_nonneg : ∀ Ts : List Tree, 0 ≤ cntL Ts
  | [] => Int.le_refl _
  | T :: Ts => by have := cnt_nonneg T; have := cntL_nonneg Ts; simp only [cntL]; omega
end
theorem take_snoc {α : Type} (xs : List α) {i : Nat} (h : i < xs.length) : xs.take (i + 1) = xs.take i ++ [xs[i]] := by
  rw [List.take_add_one, List.getElem?_eq_getElem h]; rfl
theorem zip_snd {α β γ : Type} (f : β → γ) : ∀ (xs : List α) (ys : List β), ys.length = xs.length → (xs.zip ys).map (fun p => f p.2) = ys.map f
  | [], [], _ => rfl
  | _ :: xs, _ :: ys, h => by simp [zip_snd f xs ys (by simpa using h)]
theorem zip_fst {α β γ : Type} (f : α → γ) : ∀ (xs : List α) (ys : List β), ys.length = xs.length → (xs.zip ys).map (fun p => f p.1) = xs.map f
  | [], [], _ => rfl
  | _ :: xs, _ :: ys, h => by simp [zip_fst f xs ys (by simpa using h)]

/-- for x in e: sn.append(w) -/
theorem sok_pushes {x sn : Str} {px pos p1 p2 p3 p4 : Pos} {iter e : Expr} {v : AV} {st : Addr} {xs ys : List AV} {g : AV → AV} {pl : Sem Bool} {Q : AFl → LM → AH → Prop} (hh : A.handled = none) (E : Env0 env ls gs) (hx : x ∈ ls) (hne : sn ≠ x) (hms : m sn = some (.ref st)) (hst : H st = some (.lst ys)) (hsz : ys.length + xs.length ≤ sizeLine)
    (hi : EOk c A env iter m H fun w H' => w = v ∧ H' = H) (hit : ∀ zs, iterItems (upd H st (.lst zs)) v = some xs) (hit0 : iterItems H v = some xs)
    (hel : ∀ m2 zs y, (∀ z, z ≠ x → m2 z = m z) → y ∈ xs → EOk c A env e (updM m2 x y) (upd H st (.lst zs)) fun w H' => w = g y ∧ H' = upd H st (.lst zs))
    (h : ∀ m2, (∀ z, z ≠ x → m2 z = m z) → Q .next m2 (upd H st (.lst (ys ++ xs.map g))))
    (he : eval (.Call (.Attribute (.Name sn p1) "append" p2) [e] [] p3) env = (do
      let ov ← eval (.Name sn p1) env
      standAt p2.atName
      let (f, first) ← holding [ov] (getMethod ov "append" pl)
      callWith p3 f first (backTo p3 (starEach [e] env)) []) := by rfl) (hp : plainArgs [e] = true := by rfl)
    (hs : ∀ v, foldedSetIterable iter env v = pure v := by intro _; rfl) (hd : (sn == ("__debug__" : Str)) = false := by decide) (hcd : (sn == ("__classdict__" : Str)) = false := by decide) :
    SOk c A env (exec (.For (.Name x px) iter [.Expr (.Call (.Attribute (.Name sn p1) "append" p2) [e] [] p3) p4] [] pos) env) m H Q := by
  have same : upd H st (.lst ys) = H := by funext z; simp only [upd]; split <;> simp_all
  refine sok_for hh (hi.mono ?_) (E.st hx) E.k hs
  intro w₀ H₀ h₀
  rw [h₀.1, h₀.2]
  refine ⟨xs, hit0, fun i m2 H2 => (∀ z, z ≠ x → m2 z = m z) ∧ H2 = upd H st (.lst (ys ++ (xs.take i).map g)), ⟨fun _ _ => rfl, by simp [same]⟩, ?_, ?_⟩
  · rintro i m2 H2 y ⟨e1, rfl⟩ hy
    refine ⟨hit _, ?_⟩
    have hi : i < xs.length := (List.getElem?_eq_some_iff.mp hy).1
    have hy' : xs[i] = y := by simpa [hi] using hy
    have hmem := List.mem_of_getElem? hy
    have hmst : (updM m2 x y) sn = some (.ref st) := by simp only [updM, if_neg hne]; rw [e1 sn hne]; exact hms
    refine sok_cons (sok_expr (eok_append (pl := pl) (eok_name (v := .ref st) hmst ⟨st, _, rfl, upd_self _ _ _, (hel m2 _ y e1 hmem).mono ?_⟩ E.k hd hcd) he hp) E.i)
    intro w₁ H₁ h₁
    rw [h₁.1, h₁.2]
    refine ⟨_, upd_self _ _ _, by simp; omega, rfl, ?_⟩
    refine sok_nil ⟨fun z hz => by simp only [updM, if_neg hz]; exact e1 z hz, ?_⟩
    rw [upd_upd, List.append_assoc, take_snoc xs hi, hy']
    simp
  · rintro m2 H2 ⟨e1, rfl⟩
    rw [List.take_length]
    exact ⟨hit _, h m2 e1⟩

theorem count_ok {k : Nat} {self x : Addr} {T : Tree} (P : Prog c K a) (hA : AOk k A) (hk : k < 90) (hT : TreeAt a H T x) (hsz : nodes T < 2 ^ 20) (hks : cnt T < 2 ^ 20) (h : Q (.int (cnt T)) H) :
    CodeOk c A (.ref a.cCount) [.ref self] [.ref x] H Q := by
  refine CodeOk.forget (call_fn (ps := ["self", "node"]) (fvs := [.ref self]) P.x P.nolimit P.cCount.at_ (takes_of sc_cCount (by decide) (by decide) (fun _ _ _ _ _ _ _ => len2 fun _ _ => rfl)) (by have := hA.d; simp [recursionLimit]; omega) rfl (fun h => by simp [VRs, VR]) fun L q cd => ?_)
  have E := env0 sc_cCount L a.cCount q cd
  generalize fenv mCCount.sc L a.cCount q cd = env at E ⊢
  have gl := E.len_ P
  refine sok_cons (sok_assign (eok_int ?_) (E.st (by decide)) E.k)
  refine sok_cons (sok_assign (eok_list (esok_cons (eok_name (v := .ref x) rfl (esok_nil ⟨Nat.le_of_ble_eq_true rfl, fun st hst => ?_⟩) E.k))) (E.st (by decide)) E.k)
  refine sok_cons (sok_while (fun n m' H' => ∃ (stk : List (Tree × Addr)) (tot : Int), n = nodesL (stk.map (·.1)) ∧ H' = upd H st (.lst (stk.map fun p => .ref p.2)) ∧ (∀ p ∈ stk, TreeAt a H p.1 p.2) ∧ m' "stack" = some (.ref st) ∧ m' "total" = some (.int tot) ∧ 0 ≤ tot ∧ tot + cntL (stk.map (·.1)) = cnt T ∧ nodesL (stk.map (·.1)) ≤ nodes T) (nodes T) ⟨[(T, x)], 0, by simp [nodesL], rfl, by simpa using hT, rfl, rfl, Int.le_refl _, by simp [cntL], by simp [nodesL]⟩ ?_)
  rintro n m' H' ⟨stk, tot, rfl, rfl, hstk, hms, hmt, ht0, htot, hle⟩
  have hlen : stk.length ≤ nodesL (stk.map (·.1)) := by simpa using nodesL_ge (stk.map (·.1))
  refine tok_cmp (eok_callB gl (esok_cons (eok_name hms (esok_nil (cok_len (n := stk.length) (by simp [alen, upd_self]) (by omega) (eok_int (cmp_gt ⟨_, rfl, ?_⟩)))) E.k)))
  rcases List.eq_nil_or_concat stk with rfl | ⟨rest, ⟨T0, y⟩, rfl⟩
  · simp only [List.length_nil, show (decide (((0 : Nat) : Int) > 0)) = false from rfl, Bool.false_eq_true, if_false]
    refine sok_cons (sok_return (eok_name hmt ⟨H, upd_le hst, ?_⟩ E.k))
    simp only [List.map_nil, cntL, Int.add_zero] at htot
    subst htot
    exact h
  · have hb : (decide ((((rest.concat (T0, y)).length : Nat) : Int) > 0)) = true := by simp
    rw [hb, if_pos rfl]
    simp only [List.concat_eq_append, List.map_append, List.map_cons, List.map_nil] at *
    have hT0 := hstk (T0, y) (by simp)
    obtain ⟨ks, vs, kids⟩ := T0
    simp only [TreeAt] at hT0
    obtain ⟨d, kk, v, cc, cs, h1, h2, h3, h4, h5, h6⟩ := hT0
    rw [nodesL_append] at hle hlen
    rw [cntL_append] at htot
    simp only [nodesL, nodes, cntL, cnt, Nat.add_zero, Int.add_zero, List.length_append, List.length_cons, List.length_nil] at hle hlen htot
    have hkids : cs.length ≤ nodesL kids := by rw [h6.length]; exact nodesL_ge kids
    have hcl := h6.length
    refine sok_cons (sok_assign (eok_last gl hms (upd_self _ _ _) (by simp; omega) ?_ E.k) (E.st (by decide)) E.k)
    refine sok_cons (sok_pop gl hms (upd_self _ _ _) (by simp; omega) ?_ E.k)
    rw [upd_upd]
    refine sok_cons (sok_assign (eok_binop (eok_name hmt (eok_callB gl (esok_cons ?_)) E.k)) (E.st (by decide)) E.k)
    refine node_attr P (eok_name (v := .ref y) rfl ⟨rfl, upd_get hst h1, upd_get hst h2, ?_⟩ E.k) (by decide) (by rfl)
    refine esok_nil (cok_len (n := ks.length) (by simp [alen, upd_get hst h3]) (by have := cntL_nonneg (rest.map (·.1)); have := cntL_nonneg kids; omega) (bin_add ?_))
    have hcst : cc ≠ st := by rintro rfl; rw [hst] at h5; cases h5
    refine sok_cons (sok_pushes (xs := cs.map .ref) (v := .ref cc) (g := id) hA.h E (by decide) (by decide) (st := st) (by exact hms) (upd_self _ _ _) (by simp [sizeLine]; omega) (node_attr P (eok_name (v := .ref y) rfl ⟨rfl, upd_get hst h1, upd_get hst h2, rfl, rfl⟩ E.k) (by decide) (by rfl)) (fun zs => by simp [iterItems, upd_upd, upd_get hst h5]) (by simp [iterItems, upd_get hst h5])
      (fun m2 zs y2 hm2 hy2 => eok_name (v := y2) (by simp [updM]) ⟨rfl, rfl⟩ E.k) fun m2 hm2 => ?_)
    rw [upd_upd]
    refine sok_nil ⟨nodesL (rest.map (·.1)) + nodesL kids, by rw [nodesL_append]; simp only [nodesL, nodes]; omega, rest ++ kids.zip cs, tot + ks.length, ?_, ?_, ?_, (hm2 _ (by decide)).trans hms, hm2 _ (by decide), by omega, ?_, ?_⟩
    · rw [List.map_append, nodesL_append, zip_fst (fun x => x) kids cs hcl, List.map_id']
    · rw [List.map_append, zip_snd AV.ref kids cs hcl]; simp
    · intro p hp
      rcases List.mem_append.mp hp with hp | hp
      · exact hstk p (by simp [hp])
      · exact h6.zip p hp
    · rw [List.map_append, cntL_append, zip_fst (fun x => x) kids cs hcl, List.map_id']; omega
    · rw [List.map_append, nodesL_append, zip_fst (fun x => x) kids cs hcl, List.map_id']; omega
end
end Mine
namespace Mine
open PySem PySem.W PySem.Calls PyProof.Rows

noncomputable def canF (t : Int) (r : Addr) (n : Int) : List (Str × AV) := [("t", .int t), ("root", .ref r), ("size", .int n)]
noncomputable def CanAt (a : Ads) (H : AH) (s : Addr) (t : Int) (r : Addr) (n : Int) : Prop := ∃ d, H s = some (.inst a.canopy d) ∧ H d = some (.dict (canF t r n))
theorem CanAt.mono {a : Ads} {H H' : AH} {s : Addr} {t : Int} {r : Addr} {n : Int} (k : ∀ x o, H x = some o → H' x = some o) (h : CanAt a H s t r n) : CanAt a H' s t r n := let ⟨d, h1, h2⟩ := h; ⟨d, k _ _ h1, k _ _ h2⟩

mutual
noncomputable def wt : Tree → Nat
  | .node ks vs kids => ks.length + vs.length + wtL kids + 2
noncomputable def wtL : List Tree → Nat
  | [] => 0
  | T :: Ts => wt T + wtL Ts
end
theorem wtL_append : ∀ Ts Us : List Tree, wtL (Ts ++ Us) = wtL Ts + wtL Us
  | [], Us => by simp [wtL]
  | T :: Ts, Us => by simp [wtL, wtL_append Ts Us]; omega
theorem wt_pos : ∀ T : Tree, 2 ≤ wt T
  | .node _ _ _ => by simp [wt]
theorem wtL_ge : ∀ Ts : List Tree, Ts.length ≤ wtL Ts
  | [] => Nat.le_refl _
  | T :: Ts => by
    have := wt_pos T
    have := wtL_ge Ts
    simp [wtL]; omega
mutual
theorem nodes_wt : ∀ T : Tree, nodes T ≤ wt T
  | .node ks vs kids => by have := nodesL_wtL kids; simp only [nodes, wt]; omega
theorem nodesL_wtL : ∀ Ts : List Tree, nodesL Ts ≤ wtL Ts
  | [] => Nat.le_refl _
  | T :: Ts => by have := nodes_wt T; have := nodesL_wtL Ts; simp only [nodesL, wtL]; omega
end
mutual
theorem cnt_wt : ∀ T : Tree, cnt T ≤ wt T
  | .node ks vs kids => by have := cntL_wtL kids; simp only [cnt, wt]; omega
theorem cntL_wtL : ∀ Ts : List Tree, cntL Ts ≤ wtL Ts
  | [] => Int.le_refl _
  | T :: Ts => by have := cnt_wt T; have := cntL_wtL Ts; simp only [cntL, wtL]; omega
end
theorem wtL_zip {kids : List Tree} {cs : List Addr} (h : cs.length = kids.length) : wtL ((kids.zip cs).map (·.1)) = wtL kids := by
  rw [zip_fst (fun x => x) kids cs h, List.map_id']

noncomputable def nodeOk (t : Int) (r : Bool) (ks vs : List Int) (nk : Nat) : Bool := vs.length == ks.length && decide ((ks.length : Int) ≤ 2 * t - 1) && (r || decide ((ks.length : Int) ≥ t - 1)) && (nk == 0 || nk == ks.length + 1)
mutual
noncomputable def shp (t : Int) (r : Bool) : Tree → Bool
  | .node ks vs kids => nodeOk t r ks vs kids.length && shpL t kids
noncomputable def shpL (t : Int) : List Tree → Bool
  | [] => true
  | T :: Ts => shp t false T && shpL t Ts
end
theorem shpL_all (t : Int) : ∀ Ts : List Tree, shpL t Ts = Ts.all (shp t false)
  | [] => rfl
  | T :: Ts => by simp [shpL, shpL_all t Ts]

section
variable {c : Cx} {A : Around} {env : Env} {m : LM} {H : AH} {Q : AV → AH → Prop} {K : Frag} {a : Ads} {ls gs : List Str}

theorem can_attr {o : Expr} {name : Str} {pos : Pos} {x r : Addr} {t n : Int} {w : AV} (P : Prog c K a) (h : EOk c A env o m H fun u H₁ => u = .ref x ∧ CanAt a H₁ x t r n ∧ Q w H₁) (hn : name ∈ canFields) (hl : (canF t r n).lookup name = some w)
    (he : eval (.Attribute o name pos) env = (do
      let ov ← eval o env
      standAt pos.atName
      let r ← holding [ov] (getAttr ov name true)
      letTemporaryGo o ov r
      pure r) := by with_unfolding_all rfl) : EOk c A env (.Attribute o name pos) m H Q :=
  eok_attr P.x (h.mono fun _ _ ⟨e, ⟨d, h1, h2⟩, q⟩ => ⟨x, a.canopy, d, _, w, e, P.canopy, hn, h1, h2, hl, q⟩) he

theorem ite_b {b : Bool} {X Y : Prop} (h1 : b = true → X) (h2 : b = false → Y) : if b = true then X else Y := by cases b <;> simp_all
theorem ite_t {X Y : Prop} (h : X) : if (true = true) then X else Y := by simpa using h
theorem ite_f {X Y : Prop} (h : Y) : if (false = true) then X else Y := by simpa using h
theorem natne (x y : Nat) : ((x : Int) != (y : Int)) = (x != y) := by
  rw [Bool.eq_iff_iff]; simp; omega
theorem nateq (x y : Nat) : ((x : Int) == (y : Int)) = (x == y) := by
  rw [Bool.eq_iff_iff]; simp; omega
theorem sok_if_eq {test : Expr} {body orelse : List Stmt} {pos : Pos} {Q : AFl → LM → AH → Prop} {bv : Bool}
    (h : TOk c A env test m H fun b H₁ => b = bv ∧ H₁ = H) (h1 : bv = true → SOk c A env (execs body env) m H Q) (h2 : bv = false → SOk c A env (execs orelse env) m H Q) : SOk c A env (exec (.If test body orelse pos) env) m H Q :=
  sok_if (h.mono fun b H₁ e => by
    obtain ⟨rfl, rfl⟩ := e
    exact ite_b h1 h2)
theorem mul2 (t : Int) : IntMulOk 2 t := IntMulOk.of_left (by decide)

/-- while len(stack) > 0: top = stack[len(stack) - 1]; del stack[len(stack) - 1]; .. -/
theorem sok_stack {σ : Type} {top : Str} {body : List Stmt} {p1 p2 p3 p4 p5 p6 q1 q2 q3 q4 q5 q6 q7 q8 q9 r1 r2 r3 r4 r5 r6 r7 r8 : Pos} {k1 k2 k3 : Nat} {st : Addr} {Q : AFl → LM → AH → Prop} (E : Env0 env ls gs) (gl : GName c env "len" (.builtin "len")) (htop : top ∈ ls) (hne : "stack" ≠ top)
    (f : σ → AV) (μ : List σ → Nat) (I : List σ → LM → AH → Prop) (stk₀ : List σ) (h0 : I stk₀ m H)
    (hst : ∀ stk m' H', I stk m' H' → m' "stack" = some (.ref st) ∧ H' st = some (.lst (stk.map f)) ∧ stk.length < 2 ^ 24)
    (hend : ∀ m' H', I [] m' H' → Q .next m' H')
    (hbody : ∀ rest y m' H', I (rest ++ [y]) m' H' → SOk c A env (execs body env) (updM m' top (f y)) (upd H' st (.lst (rest.map f))) (fun fl m2 H2 => match fl with
      | .next | .cont => ∃ stk', μ stk' < μ (rest ++ [y]) ∧ I stk' m2 H2
      | .ret v => Q (.ret v) m2 H2
      | .brk => False))
    (hsw : swapsWith (.Subscript (.Name "stack" q1) (.BinOp (.Call (.Name "len" q2) [.Name "stack" q3] [] q4) .Sub (.Constant (.int 1) k2 q5) q6) q7) (some (.Name top q8)) q9.line env = pure false := by rfl) :
    SOk c A env (exec (.While (.Compare (.Call (.Name "len" p1) [.Name "stack" p2] [] p3) [.Gt] [.Constant (.int 0) k1 p4] p5)
      (.Assign [.Name top q8] (.Subscript (.Name "stack" q1) (.BinOp (.Call (.Name "len" q2) [.Name "stack" q3] [] q4) .Sub (.Constant (.int 1) k2 q5) q6) q7) q9
      :: .Delete [.Subscript (.Name "stack" r1) (.BinOp (.Call (.Name "len" r2) [.Name "stack" r3] [] r4) .Sub (.Constant (.int 1) k3 r5) r6) r7] r8 :: body) [] p6) env) m H Q := by
  refine sok_while (fun n m' H' => ∃ stk, n = μ stk ∧ I stk m' H') (μ stk₀) ⟨stk₀, rfl, h0⟩ ?_
  rintro n m' H' ⟨stk, rfl, hI⟩
  obtain ⟨hms, hH, hlen⟩ := hst stk m' H' hI
  refine tok_cmp (eok_callB gl (esok_cons (eok_name hms (esok_nil (cok_len (n := stk.length) (by simp [alen, hH]) (by omega) (eok_int (cmp_gt ⟨_, rfl, ?_⟩)))) E.k)))
  rcases List.eq_nil_or_concat stk with rfl | ⟨rest, y, rfl⟩
  · simp only [List.length_nil, show (decide (((0 : Nat) : Int) > 0)) = false from rfl, Bool.false_eq_true, if_false]
    exact hend m' H' hI
  · have hb : (decide ((((rest.concat y).length : Nat) : Int) > 0)) = true := by simp
    rw [hb, if_pos rfl]
    simp only [List.concat_eq_append, List.map_append, List.map_cons, List.map_nil, List.length_append, List.length_cons, List.length_nil] at hI hH hlen ⊢
    refine sok_cons (sok_assign (eok_last gl hms hH (by simp; omega) ?_ E.k) (E.st htop) E.k hsw)
    refine sok_cons (sok_pop gl (by simp only [updM, if_neg hne]; exact hms) hH (by simp; omega) ?_ E.k)
    refine (hbody rest y m' H' hI).mono ?_
    intro fl m2 H2 h2
    cases fl with
    | next => obtain ⟨stk', h3, h4⟩ := h2; exact ⟨_, h3, stk', rfl, h4⟩
    | cont => obtain ⟨stk', h3, h4⟩ := h2; exact ⟨_, h3, stk', rfl, h4⟩
    | ret v => exact h2
    | brk => exact h2.elim

theorem sc_cShape : scOk mCShape.sc ["self", "node", "is_root", "t", "stack", "top", "here", "n", "child"] ["len"] = true := by decide +kernel

theorem shape_ok {k : Nat} {self x r : Addr} {T : Tree} {b : Bool} {t n : Int} (P : Prog c K a) (hA : AOk k A) (hk : k < 90) (hS : CanAt a H self t r n) (hT : TreeAt a H T x) (hsz : wt T < 2 ^ 20) (h : Q (.bool (shp t b T)) H) :
    CodeOk c A (.ref a.cShape) [.ref self] [.ref x, .bool b] H Q := by
  refine CodeOk.forget (call_fn (ps := ["self", "node", "is_root"]) (fvs := [.ref self]) P.x P.nolimit P.cShape.at_ (takes_of sc_cShape (by decide) (by decide) (fun _ _ _ _ _ _ _ => len3 fun _ _ _ => rfl)) (by have := hA.d; simp [recursionLimit]; omega) rfl (fun h => by simp [VRs, VR]) fun L q cd => ?_)
  have E := env0 sc_cShape L a.cShape q cd
  generalize fenv mCShape.sc L a.cShape q cd = env at E ⊢
  have gl := E.len_ P
  refine sok_cons (sok_assign (can_attr P (eok_name (v := .ref self) rfl ⟨rfl, hS, ?_⟩ E.k) (by decide) (by rfl)) (E.st (by decide)) E.k)
  refine sok_cons (sok_assign (eok_list (esok_cons (eok_tuple (esok_cons (eok_name (v := .ref x) rfl (esok_cons (eok_name (v := .bool b) rfl (esok_nil ⟨Nat.le_of_ble_eq_true rfl, esok_nil ⟨Nat.le_of_ble_eq_true rfl, fun st hst => ?_⟩⟩) E.k)) E.k))))) (E.st (by decide)) E.k)
  let II1 : List (Tree × Addr × Bool) → LM → AH → Prop := fun stk m' H' => C6 (H' = upd H st (.lst (stk.map fun p => .tup [.ref p.2.1, .bool p.2.2]))) ((∀ p ∈ stk, TreeAt a H p.1 p.2.1)) (m' "stack" = some (.ref st)) (m' "t" = some (.int t)) (stk.all (fun p => shp t p.2.2 p.1) = shp t b T) (wtL (stk.map (·.1)) ≤ wt T)
  refine sok_cons (sok_stack (σ := Tree × Addr × Bool) (st := st) E gl (by decide) (by decide) (fun p => .tup [.ref p.2.1, .bool p.2.2]) (fun stk => wtL (stk.map (·.1))) II1 [(T, x, b)] ⟨rfl, by simpa using hT, rfl, rfl, by simp, by simp [wtL]⟩ ?_ ?_ ?_)
  · rintro stk m' H' ⟨rfl, _, h1, _, _, h2⟩
    have := wtL_ge (stk.map (·.1))
    simp only [List.length_map] at this
    exact ⟨h1, upd_self _ _ _, by omega⟩
  · rintro m' H' ⟨rfl, _, _, _, hall, _⟩
    refine sok_cons (sok_return (eok_bool ⟨H, upd_le hst, ?_⟩))
    simp only [List.all_nil] at hall
    rw [hall]; exact h
  · rintro rest ⟨T0, y, r0⟩ m' H' ⟨rfl, hstk, hms, hmt, hall, hle⟩
    have hT0 := hstk (T0, y, r0) (by simp)
    obtain ⟨ks, vs, kids⟩ := T0
    simp only [TreeAt] at hT0
    obtain ⟨d, kk, v, cc, cs, h1, h2, h3, h4, h5, h6⟩ := hT0
    rw [List.map_append, wtL_append] at hle
    simp only [List.map_cons, List.map_nil, wtL, wt, Nat.add_zero] at hle
    have hkids : kids.length ≤ wtL kids := wtL_ge kids
    have hrest : rest.length ≤ wtL (rest.map (·.1)) := by simpa using wtL_ge (rest.map (·.1))
    have hcl := h6.length
    rw [List.all_append, List.all_cons, List.all_nil, Bool.and_true] at hall
    simp only [shp] at hall
    have bad : nodeOk t r0 ks vs kids.length = false → shp t b T = false := fun e => by rw [← hall, e]; simp
    rw [upd_upd]
    refine sok_cons (sok_assign (eok_item_tup (eok_name (v := .tup [.ref y, .bool r0]) rfl (eok_int ⟨_, _, _, rfl, rfl, by decide, by decide, rfl, ?_⟩) E.k)) (E.st (by decide)) E.k)
    refine sok_cons (sok_assign (eok_callB gl (esok_cons (node_attr P (eok_name (v := .ref y) rfl ⟨rfl, upd_get hst h1, upd_get hst h2, ?_⟩ E.k) (by decide) (by rfl)))) (E.st (by decide)) E.k)
    refine esok_nil (cok_len (n := ks.length) (by simp [alen, upd_get hst h3]) (by omega) ?_)
    refine sok_cons (sok_if_eq (bv := (vs.length != ks.length) || decide ((ks.length : Int) > 2 * t - 1)) (tok_boolop (all_or_cons (tok_cmp (eok_callB gl (esok_cons (node_attr P (eok_name (v := .ref y) rfl ⟨rfl, upd_get hst h1, upd_get hst h2, ?_⟩ E.k) (by decide) (by rfl))))))) ?_ ?_)
    · refine esok_nil (cok_len (n := vs.length) (by simp [alen, upd_get hst h4]) (by omega) (eok_name (v := .int ks.length) rfl (cmp_ne ⟨_, rfl, ?_⟩) E.k))
      rw [natne]
      refine ite_b (fun e => ⟨by rw [e]; rfl, rfl⟩) (fun e1 => ?_)
      refine all_or_cons (tok_cmp (eok_name (v := .int ks.length) rfl (eok_binop (eok_binop (eok_int (eok_name (v := .int t) hmt (bin_mul (mul2 t) (eok_int (bin_sub (cmp_gt ⟨_, rfl, ?_⟩)))) E.k)))) E.k))
      refine ite_b (fun e => ⟨by rw [e, e1]; rfl, rfl⟩) (fun e2 => ?_)
      exact all_or_nil ⟨by rw [e1, e2]; rfl, rfl⟩
    · intro e
      refine sok_cons (sok_return (eok_bool ⟨H, upd_le hst, ?_⟩))
      rw [bad] at h
      · exact h
      · simp only [nodeOk, Bool.and_eq_false_iff]
        simp only [Bool.or_eq_true, bne_iff_ne, decide_eq_true_eq] at e
        simp
        omega
    intro e1
    refine sok_nil (sok_cons (sok_if_eq (bv := (!r0) && decide ((ks.length : Int) < t - 1)) (tok_boolop (all_and_cons (tok_not (tok_value (eok_item_tup (eok_name (v := .tup [.ref y, .bool r0]) rfl (eok_int ⟨_, _, _, rfl, rfl, by decide, by decide, rfl, ⟨r0, rfl, ?_⟩⟩) E.k)))))) ?_ ?_))
    · refine ite_b (fun e => ?_) (fun e => ⟨by rw [e]; rfl, rfl⟩)
      refine all_and_cons (tok_cmp (eok_name (v := .int ks.length) rfl (eok_binop (eok_name (v := .int t) hmt (eok_int (bin_sub (cmp_lt ⟨_, rfl, ?_⟩))) E.k)) E.k))
      refine ite_b (fun e' => all_and_nil ⟨by rw [e, e']; rfl, rfl⟩) (fun e' => ⟨by rw [e']; simp, rfl⟩)
    · intro e
      refine sok_cons (sok_return (eok_bool ⟨H, upd_le hst, ?_⟩))
      rw [bad] at h
      · exact h
      · simp only [nodeOk, Bool.and_eq_false_iff]
        simp only [Bool.and_eq_true, Bool.not_eq_true', decide_eq_true_eq] at e
        simp [e.1]
        omega
    intro e2
    refine sok_nil (sok_cons (sok_if_eq (bv := (kids.length != 0) && (kids.length != ks.length + 1)) (tok_boolop (all_and_cons (tok_cmp (eok_callB gl (esok_cons (node_attr P (eok_name (v := .ref y) rfl ⟨rfl, upd_get hst h1, upd_get hst h2, ?_⟩ E.k) (by decide) (by rfl))))))) ?_ ?_))
    · refine esok_nil (cok_len (n := kids.length) (by simp [alen, upd_get hst h5, hcl]) (by omega) (eok_int (cmp_ne ⟨_, rfl, ?_⟩)))
      rw [show ((kids.length : Int) != 0) = (kids.length != 0) from natne kids.length 0]
      refine ite_b (fun e => ?_) (fun e => ⟨by rw [e]; rfl, rfl⟩)
      refine all_and_cons (tok_cmp (eok_callB gl (esok_cons (node_attr P (eok_name (v := .ref y) rfl ⟨rfl, upd_get hst h1, upd_get hst h2, ?_⟩ E.k) (by decide) (by rfl)))))
      refine esok_nil (cok_len (n := kids.length) (by simp [alen, upd_get hst h5, hcl]) (by omega) (eok_binop (eok_name (v := .int ks.length) rfl (eok_int (bin_add (cmp_ne ⟨_, rfl, ?_⟩))) E.k)))
      rw [show ((kids.length : Int) != (ks.length : Int) + 1) = (kids.length != ks.length + 1) from natne kids.length (ks.length + 1)]
      refine ite_b (fun e' => all_and_nil ⟨by rw [e, e']; rfl, rfl⟩) (fun e' => ⟨by rw [e']; simp, rfl⟩)
    · intro e
      refine sok_cons (sok_return (eok_bool ⟨H, upd_le hst, ?_⟩))
      rw [bad] at h
      · exact h
      · simp only [nodeOk, Bool.and_eq_false_iff]
        simp only [Bool.and_eq_true, bne_iff_ne] at e
        simp [e.1, e.2]
    intro e3
    have good : nodeOk t r0 ks vs kids.length = true := by
      simp only [nodeOk, Bool.and_eq_true, Bool.or_eq_true, decide_eq_true_eq, beq_iff_eq]
      simp only [Bool.or_eq_false_iff, Bool.and_eq_false_iff, bne_eq_false_iff_eq, decide_eq_false_iff_not, Bool.not_eq_false'] at e1 e2 e3
      refine ⟨⟨⟨e1.1, by omega⟩, ?_⟩, e3⟩
      rcases e2 with e2 | e2
      · exact .inl e2
      · exact .inr (by omega)
    have hcst : cc ≠ st := by rintro rfl; rw [hst] at h5; cases h5
    refine sok_nil (sok_cons (sok_pushes (xs := cs.map .ref) (v := .ref cc) (g := fun z => .tup [z, .bool false]) hA.h E (by decide) (by decide) (st := st) (by exact hms) (upd_self _ _ _) (by simp [sizeLine]; omega) (node_attr P (eok_name (v := .ref y) rfl ⟨rfl, upd_get hst h1, upd_get hst h2, rfl, rfl⟩ E.k) (by decide) (by rfl)) (fun zs => by simp [iterItems, upd_upd, upd_get hst h5]) (by simp [iterItems, upd_get hst h5])
      (fun m2 zs y2 hm2 hy2 => eok_tuple (esok_cons (eok_name (v := y2) (by simp [updM]) (esok_cons (eok_bool (esok_nil ⟨Nat.le_of_ble_eq_true rfl, rfl, rfl⟩))) E.k))) fun m2 hm2 => ?_))
    rw [upd_upd]
    refine sok_nil ⟨rest ++ (kids.zip cs).map fun p => (p.1, p.2, false), ?_, ?_, ?_, (hm2 _ (by decide)).trans hms, (hm2 _ (by decide)).trans hmt, ?_, ?_⟩
    · simp only [List.map_append, List.map_map, Function.comp_def, wtL_append, wtL_zip hcl, List.map_cons, List.map_nil, wtL, wt]; omega
    · rw [List.map_append, List.map_map, List.map_map]
      simp only [Function.comp_def]
      rw [zip_snd (fun x => AV.tup [.ref x, .bool false]) kids cs hcl]
    · intro p hp
      rcases List.mem_append.mp hp with hp | hp
      · exact hstk p (by simp [hp])
      · obtain ⟨p', hp', rfl⟩ := List.mem_map.mp hp
        exact h6.zip p' hp'
    · rw [← hall, List.all_append, good, Bool.true_and, shpL_all]
      congr 1
      rw [List.all_map]
      simp only [Function.comp_def]
      have := congrArg (fun l => l.all id) (zip_fst (shp t false) kids cs hcl)
      simpa [List.all_map, Function.comp_def] using this
    · simp only [List.map_append, List.map_map, Function.comp_def, wtL_append, wtL_zip hcl]; omega
end
end Mine
namespace Mine
open PySem PySem.W PySem.Calls PyProof.Rows

mutual
noncomputable def leafD (d : Int) : Tree → List Int
  | .node _ _ kids => (if kids.isEmpty then [d] else []) ++ leafDL (d + 1) kids
noncomputable def leafDL (d : Int) : List Tree → List Int
  | [] => []
  | T :: Ts => leafD d T ++ leafDL d Ts
end
noncomputable def levOf : List Int → Int
  | [] => -1
  | d :: ds => if ds.all (· == d) then d else -1
mutual
theorem leafD_ge {e : Int} : ∀ (T : Tree) {d : Int}, e ≤ d → ∀ x ∈ leafD d T, e ≤ x
  | .node ks vs kids, d, h, x, hx => by
    simp only [leafD, List.mem_append] at hx
    rcases hx with hx | hx
    · split at hx
      · simp at hx; omega
      · simp at hx
    · exact leafDL_ge kids (d := d + 1) (by omega) x hx
theorem leafDL_ge {e : Int} : ∀ (Ts : List Tree) {d : Int}, e ≤ d → ∀ x ∈ leafDL d Ts, e ≤ x
  | [], d, h, x, hx => by simp [leafDL] at hx
  | T :: Ts, d, h, x, hx => by
    simp only [leafDL, List.mem_append] at hx
    rcases hx with hx | hx
    · exact leafD_ge T h x hx
    · exact leafDL_ge Ts h x hx
end
theorem leafD_ne : ∀ (T : Tree) (d : Int), leafD d T ≠ []
  | .node ks vs [], d => by simp [leafD]
  | .node ks vs (T :: Ts), d => by
    have := leafD_ne T (d + 1)
    simp [leafD, leafDL, this]
theorem levOf_same {D : List Int} {l : Int} (hne : D ≠ []) (h : ∀ x ∈ D, x = l) : levOf D = l := by
  cases D with
  | nil => exact absurd rfl hne
  | cons d ds =>
    have hd := h d (by simp)
    subst hd
    simp only [levOf]
    rw [if_pos]
    simp only [List.all_eq_true, beq_iff_eq]
    exact fun x hx => h x (by simp [hx])
theorem levOf_two {D : List Int} {x y : Int} (hx : x ∈ D) (hy : y ∈ D) (h : x ≠ y) : levOf D = -1 := by
  cases D with
  | nil => rfl
  | cons d ds =>
    simp only [levOf]
    rw [if_neg]
    simp only [List.all_eq_true, beq_iff_eq]
    intro h'
    have e : ∀ z ∈ d :: ds, z = d := fun z hz => by
      rcases List.mem_cons.mp hz with rfl | hz
      · rfl
      · exact h' z hz
    exact h ((e x hx).trans (e y hy).symm)

theorem leafDL_mem {z d : Int} : ∀ {Ts : List Tree}, z ∈ leafDL d Ts ↔ ∃ T ∈ Ts, z ∈ leafD d T
  | [] => by simp [leafDL]
  | T :: Ts => by simp [leafDL, leafDL_mem (Ts := Ts)]
theorem zip_mem {kids : List Tree} {cs : List Addr} (h : cs.length = kids.length) {T : Tree} : T ∈ kids ↔ ∃ p ∈ kids.zip cs, p.1 = T := by
  have := (zip_fst (fun x => x) kids cs h).trans (List.map_id' kids)
  constructor
  · intro hT
    rw [← this] at hT
    exact List.mem_map.mp hT
  · intro hT
    rw [← this]
    exact List.mem_map.mpr hT
noncomputable def hgt : Tree → Nat
  | .node _ _ [] => 0
  | .node _ _ (T :: _) => hgt T + 1

section
variable {c : Cx} {A : Around} {env : Env} {m : LM} {H : AH} {Q : AV → AH → Prop} {K : Frag} {a : Ads} {ls gs : List Str}

theorem can_meth0 {o : Expr} {name : Str} {apos pos : Pos} {pl : Sem Bool} {x r f : Addr} {F : FD} {t n : Int} (P : Prog c K a) (M : MethAt K a.canopy name f F) (hl : (canF t r n).lookup name = none)
    (h : EOk c A env o m H fun v H₁ => v = .ref x ∧ CanAt a H₁ x t r n ∧ CodeOk c A (.ref f) [.ref x] [] H₁ Q)
    (he : eval (.Call (.Attribute o name apos) [] [] pos) env = (do
      let ov ← eval o env
      standAt apos.atName
      let (f, first) ← holding [ov] (getMethod ov name pl)
      callWith pos f first (backTo pos (starEach [] env)) []) := by rfl) :
    EOk c A env (.Call (.Attribute o name apos) [] [] pos) m H Q := by
  obtain ⟨_, _, _, _, _, _, _, _, _, _, hK, _⟩ := M.at_
  exact eok_meth (pl := pl) P.x (h.mono fun _ _ ⟨e, ⟨d, h1, h2⟩, q⟩ => ⟨x, a.canopy, d, _, f, _, _, e, P.canopy, h1, h2, hl, M.find, M.typ, P.x _ _ hK, rfl, q.cok⟩) he

theorem can_meth {o e : Expr} {es : List Expr} {name : Str} {apos pos : Pos} {pl : Sem Bool} {x r f : Addr} {F : FD} {t n : Int} (P : Prog c K a) (M : MethAt K a.canopy name f F) (hl : (canF t r n).lookup name = none)
    (h : EOk c A env o m H fun v H₁ => v = .ref x ∧ CanAt a H₁ x t r n ∧ EsOk c A env (e :: es) m H₁ fun vs H₂ => CodeOk c A (.ref f) [.ref x] vs H₂ Q)
    (he : eval (.Call (.Attribute o name apos) (e :: es) [] pos) env = (do
      let ov ← eval o env
      standAt apos.atName
      let (f, first) ← holding [ov] (getMethod ov name pl)
      callWith pos f first (backTo pos (starEach (e :: es) env)) []) := by rfl) (hp : plainArgs (e :: es) = true := by rfl) :
    EOk c A env (.Call (.Attribute o name apos) (e :: es) [] pos) m H Q := by
  obtain ⟨_, _, _, _, _, _, _, _, _, _, hK, _⟩ := M.at_
  exact eok_meth (pl := pl) P.x (h.mono fun _ _ ⟨e, ⟨d, h1, h2⟩, q⟩ => ⟨x, a.canopy, d, _, f, _, _, e, P.canopy, h1, h2, hl, M.find, M.typ, P.x _ _ hK, rfl, fun s rvs G r => bind2 (q s rvs G r) fun _ _ ⟨avs, H', z1, z2, z3, z4⟩ => ⟨avs, H', z1, z2, z3, z4.cok⟩⟩) he hp

theorem node_leaf {o : Expr} {apos pos : Pos} {pl : Sem Bool} {k : Nat} {x d kk v cc : Addr} {cs : List Addr} (P : Prog c K a) (hA : AOk k A) (hk : k < 90)
    (h : EOk c A env o m H fun u H₁ => u = .ref x ∧ H₁ x = some (.inst a.node d) ∧ H₁ d = some (.dict (fld kk v cc)) ∧ H₁ cc = some (.lst (cs.map .ref)) ∧ cs.length < 2 ^ 24 ∧ Q (.bool (cs.length == 0)) H₁)
    (he : eval (.Call (.Attribute o "is_leaf" apos) [] [] pos) env = (do
      let ov ← eval o env
      standAt apos.atName
      let (f, first) ← holding [ov] (getMethod ov "is_leaf" pl)
      callWith pos f first (backTo pos (starEach [] env)) []) := by rfl) :
    EOk c A env (.Call (.Attribute o "is_leaf" apos) [] [] pos) m H Q := by
  obtain ⟨_, _, _, _, _, _, _, _, _, _, hK, _⟩ := P.nLeaf.at_
  exact eok_meth (pl := pl) P.x (h.mono fun _ _ ⟨e, h1, h2, h3, h4, q⟩ => ⟨x, a.node, d, _, _, _, _, e, P.node, h1, h2, rfl, P.nLeaf.find, P.nLeaf.typ, P.x _ _ hK, rfl, (leaf_ok P hA hk h1 h2 h3 h4 q).cok⟩) he

theorem sc_cLevel : scOk mCLevel.sc ["self", "node", "level", "stack", "top", "here", "child"] ["len"] = true := by decide +kernel

theorem level_ok {k : Nat} {self x : Addr} {T : Tree} (P : Prog c K a) (hA : AOk k A) (hk : k < 80) (hT : TreeAt a H T x) (hsz : wt T < 2 ^ 20) (h : Q (.int (levOf (leafD 0 T))) H) :
    CodeOk c A (.ref a.cLevel) [.ref self] [.ref x] H Q := by
  refine CodeOk.forget (call_fn (ps := ["self", "node"]) (fvs := [.ref self]) P.x P.nolimit P.cLevel.at_ (takes_of sc_cLevel (by decide) (by decide) (fun _ _ _ _ _ _ _ => len2 fun _ _ => rfl)) (by have := hA.d; simp [recursionLimit]; omega) rfl (fun h => by simp [VRs, VR]) fun L q cd => ?_)
  have E := env0 sc_cLevel L a.cLevel q cd
  have hA' := hA.deeper (fenv mCLevel.sc L a.cLevel q cd)
  generalize A.deeper (fenv mCLevel.sc L a.cLevel q cd) = A' at hA' ⊢
  generalize fenv mCLevel.sc L a.cLevel q cd = env at E ⊢
  have gl := E.len_ P
  refine sok_cons (sok_assign (eok_neg (eok_int ⟨_, rfl, ?_⟩)) (E.st (by decide)) E.k)
  refine sok_cons (sok_assign (eok_list (esok_cons (eok_tuple (esok_cons (eok_name (v := .ref x) rfl (esok_cons (eok_int (esok_nil ⟨Nat.le_of_ble_eq_true rfl, esok_nil ⟨Nat.le_of_ble_eq_true rfl, fun st hst => ?_⟩⟩))) E.k))))) (E.st (by decide)) E.k)
  let II1 : List (Tree × Addr × Int) → LM → AH → Prop := fun stk m' H' => C6 (H' = upd H st (.lst (stk.map fun p => .tup [.ref p.2.1, .int p.2.2]))) ((∀ p ∈ stk, TreeAt a H p.1 p.2.1)) (m' "stack" = some (.ref st)) ((∃ l, m' "level" = some (.int l) ∧ ∀ z, z ∈ leafD 0 T ↔ ((∃ p ∈ stk, z ∈ leafD p.2.2 p.1) ∨ (l ≠ -1 ∧ z = l)))) ((∀ p ∈ stk, 0 ≤ p.2.2)) (wtL (stk.map (·.1)) ≤ wt T)
  refine sok_cons (sok_stack (σ := Tree × Addr × Int) (st := st) E gl (by decide) (by decide) (fun p => .tup [.ref p.2.1, .int p.2.2]) (fun stk => wtL (stk.map (·.1))) II1 [(T, x, 0)] ⟨rfl, by simpa using hT, rfl, ⟨-1, rfl, by simp⟩, by simp, by simp [wtL]⟩ ?_ ?_ ?_)
  · rintro stk m' H' ⟨rfl, _, h1, _, _, h2⟩
    have := wtL_ge (stk.map (·.1))
    simp only [List.length_map] at this
    exact ⟨h1, upd_self _ _ _, by omega⟩
  · rintro m' H' ⟨rfl, _, _, ⟨l, hl, hD⟩, _⟩
    refine sok_cons (sok_return (eok_name hl ⟨H, upd_le hst, ?_⟩ E.k))
    have : levOf (leafD 0 T) = l := by
      refine levOf_same (leafD_ne T 0) fun z hz => ?_
      have := (hD z).mp hz
      simp at this
      exact this.2
    rw [this] at h; exact h
  · rintro rest ⟨T0, y, d0⟩ m' H' ⟨rfl, hstk, hms, ⟨l, hl, hD⟩, hpos, hle⟩
    have hT0 := hstk (T0, y, d0) (by simp)
    have hd0 : 0 ≤ d0 := hpos (T0, y, d0) (by simp)
    obtain ⟨ks, vs, kids⟩ := T0
    simp only [TreeAt] at hT0
    obtain ⟨d, kk, v, cc, cs, h1, h2, h3, h4, h5, h6⟩ := hT0
    rw [List.map_append, wtL_append] at hle
    simp only [List.map_cons, List.map_nil, wtL, wt, Nat.add_zero] at hle
    have hkids : kids.length ≤ wtL kids := wtL_ge kids
    have hrest : rest.length ≤ wtL (rest.map (·.1)) := by simpa using wtL_ge (rest.map (·.1))
    have hcl := h6.length
    have hcst : cc ≠ st := by rintro rfl; rw [hst] at h5; cases h5
    rw [upd_upd]
    have hD' : ∀ z, z ∈ leafD 0 T ↔ ((∃ p ∈ rest, z ∈ leafD p.2.2 p.1) ∨ z ∈ leafD d0 (.node ks vs kids) ∨ (l ≠ -1 ∧ z = l)) := fun z => by
      rw [hD]
      simp only [List.mem_append, List.mem_singleton]
      constructor
      · rintro (⟨p, hp | rfl, hz⟩ | hz)
        · exact .inl ⟨p, hp, hz⟩
        · exact .inr (.inl hz)
        · exact .inr (.inr hz)
      · rintro (⟨p, hp, hz⟩ | hz | hz)
        · exact .inl ⟨p, .inl hp, hz⟩
        · exact .inl ⟨_, .inr rfl, hz⟩
        · exact .inr hz
    refine sok_cons (sok_assign (eok_item_tup (eok_name (v := .tup [.ref y, .int d0]) rfl (eok_int ⟨_, _, _, rfl, rfl, by decide, by decide, rfl, ?_⟩) E.k)) (E.st (by decide)) E.k)
    -- what follows the test
    have tail : ∀ m2 l2, m2 "stack" = some (.ref st) → m2 "here" = some (.ref y) → m2 "top" = some (.tup [.ref y, .int d0]) → m2 "level" = some (.int l2) → (∀ z, z ∈ leafD 0 T ↔ ((∃ p ∈ rest, z ∈ leafD p.2.2 p.1) ∨ z ∈ leafDL (d0 + 1) kids ∨ (l2 ≠ -1 ∧ z = l2))) →
        SOk c A' env (execs (match mCLevel.body with | [_, _, .While _ [_, _, _, _, s] _ _, _] => [s] | _ => []) env) m2 (upd H st (.lst (rest.map fun p => .tup [.ref p.2.1, .int p.2.2]))) (fun fl m2 H2 => match fl with
      | .next | .cont => ∃ stk' : List (Tree × Addr × Int), wtL (stk'.map (·.1)) < wtL ((rest ++ [(Tree.node ks vs kids, y, d0)]).map (·.1)) ∧ II1 stk' m2 H2
      | .ret v => ∃ H'', (∀ x o, H'' x = some o → H2 x = some o) ∧ Q (retOf (.ret v)) H''
      | .brk => False) := by
      intro m2 l2 e1 e2 e3 e4 e5
      refine (sok_cons (sok_pushes (xs := cs.map .ref) (v := .ref cc) (g := fun z => .tup [z, .int (d0 + 1)]) hA'.h E (by decide) (by decide) (st := st) e1 (upd_self _ _ _) (by simp [sizeLine]; omega) (node_attr P (eok_name (v := .ref y) e2 ⟨rfl, upd_get hst h1, upd_get hst h2, rfl, rfl⟩ E.k) (by decide) (by rfl)) (fun zs => by simp [iterItems, upd_upd, upd_get hst h5]) (by simp [iterItems, upd_get hst h5])
        (fun m3 zs y2 hm3 hy2 => eok_tuple (esok_cons (eok_name (v := y2) (by simp [updM]) (esok_cons (eok_binop (eok_item_tup (eok_name (v := .tup [.ref y, .int d0]) (by simp only [updM]; rw [if_neg (by decide), hm3 _ (by decide)]; exact e3) (eok_int ⟨_, _, _, rfl, rfl, by decide, by decide, rfl, eok_int (bin_add (esok_nil ⟨Nat.le_of_ble_eq_true rfl, rfl, rfl⟩))⟩) E.k)))) E.k))) fun m3 hm3 => ?_))
      rw [upd_upd]
      refine sok_nil ⟨rest ++ (kids.zip cs).map fun p => (p.1, p.2, d0 + 1), ?_, ?_, ?_, (hm3 _ (by decide)).trans e1, ⟨l2, (hm3 _ (by decide)).trans e4, fun z => ?_⟩, ?_, ?_⟩
      · simp only [List.map_append, List.map_map, Function.comp_def, wtL_append, wtL_zip hcl, List.map_cons, List.map_nil, wtL, wt]; omega
      · rw [List.map_append, List.map_map, List.map_map]
        simp only [Function.comp_def]
        rw [zip_snd (fun x => AV.tup [.ref x, .int (d0 + 1)]) kids cs hcl]
      · intro p hp
        rcases List.mem_append.mp hp with hp | hp
        · exact hstk p (by simp [hp])
        · obtain ⟨p', hp', rfl⟩ := List.mem_map.mp hp
          exact h6.zip p' hp'
      · rw [e5 z, ← or_assoc]
        refine or_congr ?_ Iff.rfl
        rw [leafDL_mem]
        simp only [List.mem_append, List.mem_map, zip_mem hcl]
        constructor
        · rintro (⟨p, hp, hz⟩ | ⟨T', ⟨p, hp, rfl⟩, hz⟩)
          · exact ⟨p, .inl hp, hz⟩
          · exact ⟨_, .inr ⟨p, hp, rfl⟩, hz⟩
        · rintro ⟨p, hp | ⟨p', hp, rfl⟩, hz⟩
          · exact .inl ⟨p, hp, hz⟩
          · exact .inr ⟨_, ⟨p', hp, rfl⟩, hz⟩
      · intro p hp
        rcases List.mem_append.mp hp with hp | hp
        · exact hpos p (by simp [hp])
        · obtain ⟨p', hp', rfl⟩ := List.mem_map.mp hp
          show 0 ≤ d0 + 1
          omega
      · simp only [List.map_append, List.map_map, Function.comp_def, wtL_append, wtL_zip hcl]; omega
    refine sok_cons (sok_if (tok_value (node_leaf P hA' (by omega) (eok_name (v := .ref y) rfl ⟨rfl, upd_get hst h1, upd_get hst h2, upd_get hst h5, by omega, ⟨_, rfl, ?_⟩⟩ E.k))))
    refine ite_b (fun e => ?_) (fun e => sok_nil (tail _ l hms rfl rfl hl fun z => ?_))
    · have hk0 : kids = [] := by
        have : cs.length = 0 := by simpa using e
        rw [this] at hcl
        exact List.eq_nil_of_length_eq_zero hcl.symm
      subst hk0
      simp only [leafD, leafDL, List.isEmpty_nil, if_true, List.append_nil, List.mem_singleton] at hD'
      refine sok_cons (sok_if_eq (bv := l == -1) (tok_cmp (eok_name (v := .int l) hl (eok_neg (eok_int ⟨_, rfl, cmp_eq ⟨_, rfl, rfl, rfl⟩⟩)) E.k)) (fun e1 => ?_) (fun e1 => ?_))
      · have e1' : l = -1 := by simpa using e1
        subst e1'
        refine sok_cons (sok_assign (eok_item_tup (eok_name (v := .tup [.ref y, .int d0]) rfl (eok_int ⟨_, _, _, rfl, rfl, by decide, by decide, rfl, ?_⟩) E.k)) (E.st (by decide)) E.k)
        refine sok_nil (sok_nil (tail _ d0 hms rfl rfl rfl fun z => ?_))
        rw [hD' z]
        simp only [leafDL, List.not_mem_nil, false_or]
        refine or_congr Iff.rfl ⟨fun h => ?_, fun h => .inl h.2⟩
        rcases h with h | h
        · exact ⟨by omega, h⟩
        · exact absurd rfl h.1
      · have e1' : l ≠ -1 := by simpa using e1
        refine sok_cons (sok_if_eq (bv := l != d0) (tok_cmp (eok_name (v := .int l) hl (eok_item_tup (eok_name (v := .tup [.ref y, .int d0]) rfl (eok_int ⟨_, _, _, rfl, rfl, by decide, by decide, rfl, cmp_ne ⟨_, rfl, rfl, rfl⟩⟩) E.k)) E.k)) (fun e2 => ?_) (fun e2 => ?_))
        · refine sok_cons (sok_return (eok_neg (eok_int ⟨_, rfl, H, upd_le hst, ?_⟩)))
          have : levOf (leafD 0 T) = -1 := levOf_two ((hD' l).mpr (.inr (.inr ⟨e1', rfl⟩))) ((hD' d0).mpr (.inr (.inl rfl))) (by simpa using e2)
          rw [this] at h; exact h
        · have e2' : l = d0 := by simpa using e2
          refine sok_nil (sok_nil (sok_nil (tail _ l hms rfl rfl hl fun z => ?_)))
          rw [hD' z]
          simp only [leafDL, List.not_mem_nil, false_or]
          refine or_congr Iff.rfl ⟨fun h => ?_, fun h => .inr h⟩
          rcases h with h | h
          · exact ⟨e1', by omega⟩
          · exact h
    · rw [hD' z]
      have : kids.isEmpty = false := by
        cases kids with
        | nil => rw [hcl] at e; simp at e
        | cons _ _ => rfl
      simp only [leafD, this, Bool.false_eq_true, if_false, List.nil_append]
end
end Mine
namespace Mine
open PySem PySem.W PySem.Calls PyProof.Rows

mutual
noncomputable def flatT : Tree → List Int
  | .node ks vs kids => (ks.length : Int) :: (ks ++ (vs ++ ((kids.length : Int) :: flatTL kids)))
noncomputable def flatTL : List Tree → List Int
  | [] => []
  | T :: Ts => flatT T ++ flatTL Ts
end
mutual
theorem flatT_length : ∀ T : Tree, (flatT T).length = wt T
  | .node ks vs kids => by have := flatTL_length kids; simp only [flatT, wt, List.length_cons, List.length_append]; omega
theorem flatTL_length : ∀ Ts : List Tree, (flatTL Ts).length = wtL Ts
  | [] => rfl
  | T :: Ts => by have := flatT_length T; have := flatTL_length Ts; simp only [flatTL, wtL, List.length_append]; omega
end
theorem flatTL_append : ∀ Ts Us : List Tree, flatTL (Ts ++ Us) = flatTL Ts ++ flatTL Us
  | [], Us => by simp [flatTL]
  | T :: Ts, Us => by simp [flatTL, flatTL_append Ts Us]

theorem wtL_reverse : ∀ Ts : List Tree, wtL Ts.reverse = wtL Ts
  | [] => rfl
  | T :: Ts => by simp only [List.reverse_cons, wtL_append, wtL, wtL_reverse Ts]; omega
noncomputable def W2 (H : AH) (ot st : Addr) (o s : List AV) : AH := upd (upd H ot (.lst o)) st (.lst s)
theorem upd_comm {H : AH} {a b : Addr} {o p : AO} (h : a ≠ b) : upd (upd H a o) b p = upd (upd H b p) a o := by
  funext x; simp only [upd]; split <;> split <;> simp_all

section
variable {c : Cx} {A : Around} {env : Env} {m : LM} {H : AH} {Q : AV → AH → Prop} {K : Frag} {a : Ads} {ls gs : List Str}

theorem sc_cHeight : scOk mCHeight.sc ["self", "node", "levels"] [] = true := by decide +kernel
theorem height_ok {k : Nat} {self x : Addr} {T : Tree} {t n : Int} (P : Prog c K a) (hA : AOk k A) (hk : k < 80) (hS : CanAt a H self t x n) (hT : TreeAt a H T x) (hsz : wt T < 2 ^ 20) (h : Q (.int (hgt T)) H) :
    CodeOk c A (.ref a.cHeight) [.ref self] [] H Q := by
  refine (call_fn (ps := ["self"]) (fvs := [.ref self]) P.x P.nolimit P.cHeight.at_ (takes_of sc_cHeight (by decide) (by decide) (fun _ _ _ _ _ _ _ => len1 fun _ => rfl)) (by have := hA.d; simp [recursionLimit]; omega) rfl (fun h => by simp [VRs, VR]) fun L q cd => ?_)
  have E := env0 sc_cHeight L a.cHeight q cd
  have hA' := hA.deeper (fenv mCHeight.sc L a.cHeight q cd)
  generalize A.deeper (fenv mCHeight.sc L a.cHeight q cd) = A' at hA' ⊢
  generalize fenv mCHeight.sc L a.cHeight q cd = env at E ⊢
  refine sok_cons (sok_assign (can_attr P (eok_name (v := .ref self) rfl ⟨rfl, hS, ?_⟩ E.k) (by decide) (by rfl)) (E.st (by decide)) E.k)
  refine sok_cons (sok_assign (eok_int ?_) (E.st (by decide)) E.k)
  refine sok_cons (sok_while (fun i m' H' => H' = H ∧ ∃ T' y, C5 (i = hgt T') (TreeAt a H T' y) (m' "node" = some (.ref y)) (wt T' < 2 ^ 20) (∃ l : Nat, m' "levels" = some (.int l) ∧ l + hgt T' = hgt T)) (hgt T) ⟨rfl, T, x, rfl, hT, rfl, hsz, 0, rfl, by omega⟩ ?_)
  rintro i m' H' ⟨rfl, T', y, rfl, hT', hm, hw, l, hl, hlt⟩
  obtain ⟨ks, vs, kids⟩ := T'
  simp only [TreeAt] at hT'
  obtain ⟨d, kk, v, cc, cs, h1, h2, h3, h4, h5, h6⟩ := hT'
  have hcl := h6.length
  have hkids : kids.length ≤ wtL kids := wtL_ge kids
  simp only [wt] at hw
  refine tok_not (tok_value (node_leaf P hA' (by omega) (eok_name hm ⟨rfl, h1, h2, h5, by omega, ⟨_, rfl, ?_⟩⟩ E.k)))
  cases kids with
  | nil =>
    simp only [List.length_nil] at hcl
    rw [hcl]
    refine ite_f (sok_cons (sok_return (eok_name hl ?_ E.k)))
    simp only [hgt, Nat.add_zero] at hlt
    rw [hlt]; exact h
  | cons T0 Ts =>
    simp only [TreesAt] at h6
    obtain ⟨x0, r0, rfl, h7, h8⟩ := h6
    refine ite_t (sok_cons (sok_assign (eok_item_lst (node_attr P (eok_name (v := .ref y) hm ⟨rfl, h1, h2, ?_⟩ E.k) (by decide) (by rfl))) (E.st (by decide)) E.k))
    refine eok_int ⟨cc, _, _, .ref x0, rfl, rfl, h5, by decide, by decide, by simp, ?_⟩
    refine sok_cons (sok_assign (eok_binop (eok_name (v := .int l) hl (eok_int (bin_add ?_)) E.k)) (E.st (by decide)) E.k)
    simp only [hgt, wtL] at *
    exact sok_nil ⟨hgt T0, by omega, rfl, T0, x0, rfl, h7, rfl, by omega, l + 1, rfl, by omega⟩

theorem sc_cFlatB : scOk mCFlatB.sc ["self", "node", "out", "stack", "here", "k", "v", "j"] ["len", "range"] = true := by decide +kernel

theorem flatB_ok {k : Nat} {self x : Addr} {T : Tree} (P : Prog c K a) (hA : AOk k A) (hk : k < 80) (hT : TreeAt a H T x) (hsz : wt T < 2 ^ 20) (h : ∀ r, H r = none → Q (.ref r) (upd H r (.lst ((flatT T).map .int)))) :
    CodeOk c A (.ref a.cFlatB) [.ref self] [.ref x] H Q := by
  refine CodeOk.forget (call_fn (ps := ["self", "node"]) (fvs := [.ref self]) P.x P.nolimit P.cFlatB.at_ (takes_of sc_cFlatB (by decide) (by decide) (fun _ _ _ _ _ _ _ => len2 fun _ _ => rfl)) (by have := hA.d; simp [recursionLimit]; omega) rfl (fun h => by simp [VRs, VR]) fun L q cd => ?_)
  have E := env0 sc_cFlatB L a.cFlatB q cd
  have hA' := hA.deeper (fenv mCFlatB.sc L a.cFlatB q cd)
  generalize A.deeper (fenv mCFlatB.sc L a.cFlatB q cd) = A' at hA' ⊢
  generalize fenv mCFlatB.sc L a.cFlatB q cd = env at E ⊢
  have gl := E.len_ P
  have gr := E.range_ P
  refine sok_cons (sok_assign (eok_list (esok_nil ⟨Nat.le_of_ble_eq_true rfl, fun ot hot => ?_⟩)) (E.st (by decide)) E.k)
  refine sok_cons (sok_assign (eok_list (esok_cons (eok_name (v := .ref x) rfl (esok_nil ⟨Nat.le_of_ble_eq_true rfl, fun st hst' => ?_⟩) E.k))) (E.st (by decide)) E.k)
  have hne : st ≠ ot := by rintro rfl; rw [upd_self] at hst'; cases hst'
  have hst : H st = none := by rw [upd_ne hne] at hst'; exact hst'
  have Wst : ∀ o s s', upd (W2 H ot st o s) st (.lst s') = W2 H ot st o s' := fun o s s' => upd_upd _ _ _ _
  have Wot : ∀ o s o', upd (W2 H ot st o s) ot (.lst o') = W2 H ot st o' s := fun o s o' => by unfold W2; rw [upd_comm hne, upd_upd]
  have Wg : ∀ o s z ob, H z = some ob → W2 H ot st o s z = some ob := fun o s z ob hz => by
    unfold W2
    rw [upd_ne (by rintro rfl; rw [hst] at hz; cases hz), upd_ne (by rintro rfl; rw [hot] at hz; cases hz)]; exact hz
  have Ws : ∀ o s, W2 H ot st o s st = some (.lst s) := fun o s => upd_self _ _ _
  have Wo : ∀ o s, W2 H ot st o s ot = some (.lst o) := fun o s => by unfold W2; rw [upd_ne hne.symm, upd_self]
  let II1 : List (Tree × Addr) → LM → AH → Prop := fun stk m' H' => C5 ((∀ p ∈ stk, TreeAt a H p.1 p.2)) (m' "stack" = some (.ref st)) (m' "out" = some (.ref ot)) ((∃ o : List Int, H' = W2 H ot st (o.map .int) (stk.map fun p => .ref p.2) ∧ o ++ flatTL (stk.reverse.map (·.1)) = flatT T)) (wtL (stk.map (·.1)) ≤ wt T)
  refine sok_cons (sok_stack (σ := Tree × Addr) (st := st) E gl (by decide) (by decide) (fun p => .ref p.2) (fun stk => wtL (stk.map (·.1))) II1 [(T, x)] ⟨by simpa using hT, rfl, rfl, ⟨[], rfl, by simp [flatTL]⟩, by simp [wtL]⟩ ?_ ?_ ?_)
  · rintro stk m' H' ⟨_, h1, _, ⟨o, rfl, _⟩, h2⟩
    have := wtL_ge (stk.map (·.1))
    simp only [List.length_map] at this
    exact ⟨h1, Ws _ _, by omega⟩
  · rintro m' H' ⟨_, _, hmo, ⟨o, rfl, ho⟩, _⟩
    refine sok_cons (sok_return (eok_name hmo ⟨upd H ot (.lst (o.map .int)), upd_le (by rw [upd_ne hne]; exact hst), ?_⟩ E.k))
    simp only [List.reverse_nil, List.map_nil, flatTL, List.append_nil] at ho
    rw [ho]; exact h ot hot
  · rintro rest ⟨T0, y⟩ m' H' ⟨hstk, hms, hmo, ⟨o, rfl, ho⟩, hle⟩
    have hT0 := hstk (T0, y) (by simp)
    obtain ⟨ks, vs, kids⟩ := T0
    simp only [TreeAt] at hT0
    obtain ⟨d, kk, v, cc, cs, h1, h2, h3, h4, h5, h6⟩ := hT0
    rw [List.map_append, wtL_append] at hle
    simp only [List.map_cons, List.map_nil, wtL, wt, Nat.add_zero] at hle
    have hkids : kids.length ≤ wtL kids := wtL_ge kids
    have hrest : rest.length ≤ wtL (rest.map (·.1)) := by simpa using wtL_ge (rest.map (·.1))
    have hcl := h6.length
    have hol : o.length + (wtL kids + vs.length + ks.length + 2) ≤ wt T := by
      have := congrArg List.length ho
      rw [flatT_length, List.length_append, flatTL_length, List.reverse_append] at this
      simp only [List.reverse_cons, List.reverse_nil, List.nil_append, List.map_append, List.map_cons, List.map_nil, wtL_append, wtL, wt] at this
      omega
    rw [Wst]
    refine sok_cons (sok_expr (eok_append (pl := _) (eok_name (v := .ref ot) hmo ⟨ot, _, rfl, Wo _ _, eok_callB gl (esok_cons (node_attr P (eok_name (v := .ref y) rfl ⟨rfl, Wg _ _ _ _ h1, Wg _ _ _ _ h2, ?_⟩ E.k) (by decide) (by rfl)))⟩ E.k)) E.i)
    refine esok_nil (cok_len (n := ks.length) (by simp [alen, Wg _ _ _ _ h3]) (by omega) ⟨_, Wo _ _, by simp [sizeLine]; omega, rfl, ?_⟩)
    rw [Wot]
    refine (sok_cons (sok_pushes (xs := ks.map .int) (v := .ref kk) (g := id) hA'.h E (by decide) (by decide) (st := ot) (by exact hmo) (Wo _ _) (by simp [sizeLine]; omega) (node_attr P (eok_name (v := .ref y) rfl ⟨rfl, Wg _ _ _ _ h1, Wg _ _ _ _ h2, rfl, rfl⟩ E.k) (by decide) (by rfl)) (fun zs => by rw [Wot]; simp [iterItems, Wg _ _ _ _ h3]) (by simp [iterItems, Wg _ _ _ _ h3])
      (fun m2 zs y2 hm2 hy2 => eok_name (v := y2) (by simp [updM]) ⟨rfl, rfl⟩ E.k) fun m2 hm2 => ?_))
    rw [Wot]
    have hmo2 : m2 "out" = some (.ref ot) := (hm2 _ (by decide)).trans hmo
    have hms2 : m2 "stack" = some (.ref st) := (hm2 _ (by decide)).trans hms
    have hmh2 : m2 "here" = some (.ref y) := hm2 _ (by decide)
    refine (sok_cons (sok_pushes (xs := vs.map .int) (v := .ref v) (g := id) hA'.h E (by decide) (by decide) (st := ot) (by exact hmo2) (Wo _ _) (by simp [sizeLine]; omega) (node_attr P (eok_name (v := .ref y) hmh2 ⟨rfl, Wg _ _ _ _ h1, Wg _ _ _ _ h2, rfl, rfl⟩ E.k) (by decide) (by rfl)) (fun zs => by rw [Wot]; simp [iterItems, Wg _ _ _ _ h4]) (by simp [iterItems, Wg _ _ _ _ h4])
      (fun m2 zs y2 hm2 hy2 => eok_name (v := y2) (by simp [updM]) ⟨rfl, rfl⟩ E.k) fun m3 hm3 => ?_))
    rw [Wot]
    have hmo3 : m3 "out" = some (.ref ot) := (hm3 _ (by decide)).trans hmo2
    have hms3 : m3 "stack" = some (.ref st) := (hm3 _ (by decide)).trans hms2
    have hmh3 : m3 "here" = some (.ref y) := (hm3 _ (by decide)).trans hmh2
    refine sok_cons (sok_expr (eok_append (pl := _) (eok_name (v := .ref ot) hmo3 ⟨ot, _, rfl, Wo _ _, eok_callB gl (esok_cons (node_attr P (eok_name (v := .ref y) hmh3 ⟨rfl, Wg _ _ _ _ h1, Wg _ _ _ _ h2, ?_⟩ E.k) (by decide) (by rfl)))⟩ E.k)) E.i)
    refine esok_nil (cok_len (n := kids.length) (by simp [alen, Wg _ _ _ _ h5, hcl]) (by omega) ⟨_, Wo _ _, by simp [sizeLine]; omega, rfl, ?_⟩)
    rw [Wot]
    refine sok_cons (sok_pushes (xs := (List.range kids.length).map fun i : Nat => .int ((kids.length : Int) - 1 + (i : Int) * (-1))) (v := .rng ((kids.length : Int) - 1) kids.length (-1)) (g := fun z => match z with | .int j => ((cs.map AV.ref)[j.toNat]?).getD .none | _ => .none) hA'.h E (by decide) (by decide) (st := st) hms3 (Ws _ _) (by simp [sizeLine]; omega) (eok_callT gr (esok_cons (eok_binop (eok_callB gl (esok_cons (node_attr P (eok_name (v := .ref y) hmh3 ⟨rfl, Wg _ _ _ _ h1, Wg _ _ _ _ h2, ?_⟩ E.k) (by decide) (by rfl))))))) (fun zs => rfl) rfl
      (fun m4 zs y2 hm4 hy2 => ?_) fun m4 hm4 => ?_)
    · refine esok_nil (cok_len (n := kids.length) (by simp [alen, Wg _ _ _ _ h5, hcl]) (by omega) (eok_int (bin_sub (esok_cons (eok_neg (eok_int ⟨_, rfl, esok_cons (eok_neg (eok_int ⟨_, rfl, esok_nil (cok_range_down (by omega) ⟨rfl, rfl⟩)⟩))⟩))))))
    · obtain ⟨i, hi, rfl⟩ := List.mem_map.mp hy2
      have hi := List.mem_range.mp hi
      rw [Wst]
      have hlt : ((kids.length : Int) - 1 + (i : Int) * (-1)).toNat < (cs.map AV.ref).length := by simp; omega
      refine eok_item_lst (node_attr P (eok_name (v := .ref y) (by simp only [updM]; rw [if_neg (by decide), hm4 _ (by decide)]; exact hmh3) ⟨rfl, Wg _ _ _ _ h1, Wg _ _ _ _ h2, ?_⟩ E.k) (by decide) (by rfl))
      refine eok_name (v := .int ((kids.length : Int) - 1 + (i : Int) * (-1))) (by simp [updM]) ⟨cc, _, _, (cs.map AV.ref)[((kids.length : Int) - 1 + (i : Int) * (-1)).toNat], rfl, rfl, Wg _ _ _ _ h5, by omega, by omega, List.getElem?_eq_getElem hlt, ?_, rfl⟩ E.k
      simp only [List.getElem?_eq_getElem hlt, Option.getD_some]
    rw [Wst]
    have hrev : (((List.range kids.length).map fun i : Nat => AV.int ((kids.length : Int) - 1 + (i : Int) * (-1))).map fun z => match z with | .int j => ((cs.map AV.ref)[j.toNat]?).getD .none | _ => .none) = (cs.map AV.ref).reverse := by
      rw [List.map_map]
      refine List.ext_getElem? fun i => ?_
      simp only [List.getElem?_map, Function.comp_def]
      by_cases hi : i < kids.length
      · rw [List.getElem?_reverse (by simp; omega)]
        rw [List.getElem?_range hi]
        have hlt : kids.length - 1 - i < (cs.map AV.ref).length := by simp; omega
        have e : ((kids.length : Int) - 1 + (i : Int) * (-1)).toNat = kids.length - 1 - i := by omega
        have hlt' : kids.length - 1 - i < cs.length := by omega
        simp only [Option.map_some, e, List.length_map, hcl, List.getElem?_eq_getElem hlt', List.getElem?_eq_getElem hlt, Option.getD_some, List.getElem_map]
      · rw [List.getElem?_eq_none (by simp; omega), List.getElem?_eq_none (by simp; omega)]; rfl
    rw [hrev]
    refine sok_nil ⟨rest ++ (kids.zip cs).reverse, ?_, ?_, (hm4 _ (by decide)).trans hms3, (hm4 _ (by decide)).trans hmo3, ⟨o ++ ((ks.length : Int) :: (ks ++ (vs ++ [(kids.length : Int)]))), ?_, ?_⟩, ?_⟩
    · simp only [List.map_append, List.map_reverse, wtL_append, wtL_reverse, wtL_zip hcl, List.map_cons, List.map_nil, wtL, wt]; omega
    · intro p hp
      rcases List.mem_append.mp hp with hp | hp
      · exact hstk p (by simp [hp])
      · exact h6.zip p (by simpa using hp)
    · congr 1
      · simp
      · rw [List.map_append, List.map_reverse, zip_snd AV.ref kids cs hcl]
    · rw [← ho]
      simp only [List.reverse_append, List.reverse_reverse, List.reverse_cons, List.reverse_nil, List.nil_append, List.map_append, List.map_cons, List.map_nil, flatTL_append, flatTL, flatT]
      rw [zip_fst (fun x => x) kids cs hcl, List.map_id']
      simp
    · simp only [List.map_append, List.map_reverse, wtL_append, wtL_reverse, wtL_zip hcl]; omega

theorem sc_cFlat : scOk mCFlat.sc ["self"] [] = true := by decide +kernel
theorem flat_ok {k : Nat} {self x : Addr} {T : Tree} {t n : Int} (P : Prog c K a) (hA : AOk k A) (hk : k < 70) (hS : CanAt a H self t x n) (hT : TreeAt a H T x) (hsz : wt T < 2 ^ 20) (h : ∀ r, H r = none → Q (.ref r) (upd H r (.lst ((t :: flatT T).map .int)))) :
    CodeOk c A (.ref a.cFlat) [.ref self] [] H Q := by
  refine CodeOk.forget (call_fn (ps := ["self"]) (fvs := [.ref self]) P.x P.nolimit P.cFlat.at_ (takes_of sc_cFlat (by decide) (by decide) (fun _ _ _ _ _ _ _ => len1 fun _ => rfl)) (by have := hA.d; simp [recursionLimit]; omega) rfl (fun h => by simp [VRs, VR]) fun L q cd => ?_)
  have E := env0 sc_cFlat L a.cFlat q cd
  have hA' := hA.deeper (fenv mCFlat.sc L a.cFlat q cd)
  generalize A.deeper (fenv mCFlat.sc L a.cFlat q cd) = A' at hA' ⊢
  generalize fenv mCFlat.sc L a.cFlat q cd = env at E ⊢
  refine sok_cons (sok_return (eok_binop (eok_list (esok_cons (can_attr P (eok_name (v := .ref self) rfl ⟨rfl, hS, ?_⟩ E.k) (by decide) (by rfl))))))
  refine esok_nil ⟨Nat.le_of_ble_eq_true rfl, fun r1 hr1 => ?_⟩
  refine can_meth P P.cFlatB (t := t) (r := x) (n := n) rfl (eok_name (v := .ref self) rfl ⟨rfl, hS.mono (upd_le hr1), ?_⟩ E.k)
  refine esok_cons (can_attr P (eok_name (v := .ref self) rfl ⟨rfl, hS.mono (upd_le hr1), ?_⟩ E.k) (by decide) (by rfl))
  refine esok_nil (flatB_ok P hA' (by omega) (hT.mono (upd_le hr1)) hsz fun r2 hr2 => ?_)
  have hne : r1 ≠ r2 := by rintro rfl; rw [upd_self] at hr2; cases hr2
  have hl := flatT_length T
  refine bin_add_list (xs := [.int t]) (ys := (flatT T).map .int) (by rw [upd_ne hne, upd_self]) (upd_self _ _ _) (by simp [sizeLine]; omega) fun r hr => ?_
  have hrr1 : r ≠ r1 := by rintro rfl; rw [upd_ne hne, upd_self] at hr; cases hr
  have hrr2 : r ≠ r2 := by rintro rfl; rw [upd_self] at hr; cases hr
  have hHr : H r = none := by rw [upd_ne hrr2, upd_ne hrr1] at hr; exact hr
  refine ⟨upd H r (.lst ((t :: flatT T).map .int)), fun z o hz => ?_, h r hHr⟩
  by_cases hzr : z = r
  · subst hzr; rw [upd_self] at hz ⊢; exact hz
  · rw [upd_ne hzr] at hz ⊢
    exact upd_le hr2 _ _ (upd_le hr1 _ _ hz)

theorem sc_cAdopt : scOk mCAdopt.sc ["self", "root", "size"] [] = true := by decide +kernel
theorem adopt_ok {k : Nat} {self r d x : Addr} {t n n' : Int} (P : Prog c K a) (hA : AOk k A) (hk : k < 70) (hS : H self = some (.inst a.canopy d)) (hd : H d = some (.dict (canF t r n))) (h : Q .none (upd H d (.dict (canF t x n')))) :
    CodeOk c A (.ref a.cAdopt) [.ref self] [.ref x, .int n'] H Q := by
  refine (call_fn (ps := ["self", "root", "size"]) (fvs := [.ref self]) P.x P.nolimit P.cAdopt.at_ (takes_of sc_cAdopt (by decide) (by decide) (fun _ _ _ _ _ _ _ => len3 fun _ _ _ => rfl)) (by have := hA.d; simp [recursionLimit]; omega) rfl (fun h => by simp [VRs, VR]) fun L q cd => ?_)
  have E := env0 sc_cAdopt L a.cAdopt q cd
  have hA' := hA.deeper (fenv mCAdopt.sc L a.cAdopt q cd)
  generalize A.deeper (fenv mCAdopt.sc L a.cAdopt q cd) = A' at hA' ⊢
  generalize fenv mCAdopt.sc L a.cAdopt q cd = env at E ⊢
  have hne : self ≠ d := by rintro rfl; rw [hS] at hd; cases hd
  refine sok_cons (sok_setattr P.x (eok_name (v := .ref x) rfl (eok_name (v := .ref self) rfl ⟨self, a.canopy, d, _, rfl, P.canopy, by decide, hS, hd, by simp [canF], ?_⟩ E.k) E.k))
  refine sok_cons (sok_setattr P.x (eok_name (v := .int n') rfl (eok_name (v := .ref self) rfl ⟨self, a.canopy, d, _, rfl, P.canopy, by decide, by rw [upd_ne hne]; exact hS, upd_self _ _ _, by show (3 : Nat) < 900; decide, ?_⟩ E.k) E.k))
  rw [upd_upd]
  exact sok_nil h

theorem sc_nInit : scOk mNInit.sc ["self", "keys", "values", "children"] [] = true := by decide +kernel
theorem nInit_ok {k : Nat} {self d k1 k2 k3 : Addr} (P : Prog c K a) (hA : AOk k A) (hk : k < 70) (hS : H self = some (.inst a.node d)) (hd : H d = some (.dict [])) (h : Q .none (upd H d (.dict (fld k1 k2 k3)))) :
    CodeOk c A (.ref a.nInit) [.ref self] [.ref k1, .ref k2, .ref k3] H Q := by
  refine (call_fn (ps := ["self", "keys", "values", "children"]) (fvs := [.ref self]) P.x P.nolimit P.nInit.at_ (takes_of sc_nInit (by decide) (by decide) (fun _ _ _ _ _ _ _ => len4 fun _ _ _ _ => rfl)) (by have := hA.d; simp [recursionLimit]; omega) rfl (fun h => by simp [VRs, VR]) fun L q cd => ?_)
  have E := env0 sc_nInit L a.nInit q cd
  have hA' := hA.deeper (fenv mNInit.sc L a.nInit q cd)
  generalize A.deeper (fenv mNInit.sc L a.nInit q cd) = A' at hA' ⊢
  generalize fenv mNInit.sc L a.nInit q cd = env at E ⊢
  have hne : self ≠ d := by rintro rfl; rw [hS] at hd; cases hd
  refine sok_cons (sok_setattr P.x (eok_name (v := .ref k1) rfl (eok_name (v := .ref self) rfl ⟨self, a.node, d, _, rfl, P.node, by decide, hS, hd, by decide, ?_⟩ E.k) E.k))
  refine sok_cons (sok_setattr P.x (eok_name (v := .ref k2) rfl (eok_name (v := .ref self) rfl ⟨self, a.node, d, _, rfl, P.node, by decide, by rw [upd_ne hne]; exact hS, upd_self _ _ _, by show (1 : Nat) < 900; decide, ?_⟩ E.k) E.k))
  rw [upd_upd]
  refine sok_cons (sok_setattr P.x (eok_name (v := .ref k3) rfl (eok_name (v := .ref self) rfl ⟨self, a.node, d, _, rfl, P.node, by decide, by rw [upd_ne hne]; exact hS, upd_self _ _ _, by show (2 : Nat) < 900; decide, ?_⟩ E.k) E.k))
  rw [upd_upd]
  exact sok_nil h

theorem sc_cInit : scOk mCInit.sc ["self", "t"] ["Node"] = true := by decide +kernel
theorem cInit_ok {k : Nat} {self d : Addr} {t : Int} (P : Prog c K a) (hA : AOk k A) (hk : k < 60) (hS : H self = some (.inst a.canopy d)) (hd : H d = some (.dict []))
    (h : ∀ H' r, (∀ z o, z ≠ d → H z = some o → H' z = some o) → CanAt a H' self t r 0 → TreeAt a H' (.node [] [] []) r → Q .none H') :
    CodeOk c A (.ref a.cInit) [.ref self] [.int t] H Q := by
  refine (call_fn (ps := ["self", "t"]) (fvs := [.ref self]) P.x P.nolimit P.cInit.at_ (takes_of sc_cInit (by decide) (by decide) (fun _ _ _ _ _ _ _ => len2 fun _ _ => rfl)) (by have := hA.d; simp [recursionLimit]; omega) rfl (fun h => by simp [VRs, VR]) fun L q cd => ?_)
  have E := env0 sc_cInit L a.cInit q cd
  have hA' := hA.deeper (fenv mCInit.sc L a.cInit q cd)
  generalize A.deeper (fenv mCInit.sc L a.cInit q cd) = A' at hA' ⊢
  generalize fenv mCInit.sc L a.cInit q cd = env at E ⊢
  have gN : GName c env "Node" (.ref a.node) := E.gn P (by repeat (first | exact List.Mem.head _ | apply List.Mem.tail)) (by simp)
  have hne : self ≠ d := by rintro rfl; rw [hS] at hd; cases hd
  refine sok_cons (sok_setattr P.x (eok_name (v := .int t) rfl (eok_name (v := .ref self) rfl ⟨self, a.canopy, d, _, rfl, P.canopy, by decide, hS, hd, by decide, ?_⟩ E.k) E.k))
  have keep0 : ∀ z o, z ≠ d → H z = some o → upd H d (.dict (putF "t" (.int t) [])) z = some o := fun z o hz e => by rw [upd_ne hz]; exact e
  have hS1 : upd H d (.dict (putF "t" (.int t) [])) self = some (.inst a.canopy d) := keep0 _ _ hne hS
  have hd1 : upd H d (.dict (putF "t" (.int t) [])) d = some (.dict (putF "t" (.int t) [])) := upd_self _ _ _
  generalize upd H d (.dict (putF "t" (.int t) [])) = H1 at keep0 hS1 hd1 ⊢
  refine sok_cons (sok_setattr (names := canFields) P.x (eok_make P.x gN P.nodeMakes.1 P.nInit.find P.nInit.typ P.nodeMakes.2 (esok_cons (eok_list (esok_nil ⟨Nat.le_of_ble_eq_true rfl, fun r1 hr1 => esok_cons (eok_list (esok_nil ⟨Nat.le_of_ble_eq_true rfl, fun r2 hr2 => esok_cons (eok_list (esok_nil ⟨Nat.le_of_ble_eq_true rfl, fun r3 hr3 => esok_nil fun x xd hx hxd hxx rvs => ?_⟩))⟩))⟩)))))
  have n12 : r1 ≠ r2 := by rintro rfl; rw [upd_self] at hr2; cases hr2
  have n13 : r1 ≠ r3 := by rintro rfl; rw [upd_ne n12, upd_self] at hr3; cases hr3
  have n23 : r2 ≠ r3 := by rintro rfl; rw [upd_self] at hr3; cases hr3
  have le3 : ∀ z o, H1 z = some o → upd (upd (upd H1 r1 (.lst [])) r2 (.lst [])) r3 (.lst []) z = some o := fun z o e => upd_le hr3 _ _ (upd_le hr2 _ _ (upd_le hr1 _ _ e))
  have e1 : upd (upd (upd H1 r1 (.lst [])) r2 (.lst [])) r3 (.lst []) r1 = some (.lst []) := by rw [upd_ne n13, upd_ne n12, upd_self]
  have e2 : upd (upd (upd H1 r1 (.lst [])) r2 (.lst [])) r3 (.lst []) r2 = some (.lst []) := by rw [upd_ne n23, upd_self]
  have e3 : upd (upd (upd H1 r1 (.lst [])) r2 (.lst [])) r3 (.lst []) r3 = some (.lst []) := upd_self _ _ _
  generalize upd (upd (upd H1 r1 (.lst [])) r2 (.lst [])) r3 (.lst []) = H2 at hx hxd le3 e1 e2 e3 ⊢
  refine nInit_ok P (hA'.make _ _) (by omega) (d := xd) (upd_self _ _ _) (by rw [upd_ne hxx.symm, upd_self]) ⟨rfl, ?_⟩
  have le4 : ∀ z o, H2 z = some o → upd (upd (upd H2 xd (.dict [])) x (.inst a.node xd)) xd (.dict (fld r1 r2 r3)) z = some o := fun z o e => by
    rw [upd_ne (by rintro rfl; rw [hxd] at e; cases e), upd_ne (by rintro rfl; rw [hx] at e; cases e), upd_ne (by rintro rfl; rw [hxd] at e; cases e)]; exact e
  have e5 : upd (upd (upd H2 xd (.dict [])) x (.inst a.node xd)) xd (.dict (fld r1 r2 r3)) x = some (.inst a.node xd) := by rw [upd_ne hxx, upd_self]
  have e6 : upd (upd (upd H2 xd (.dict [])) x (.inst a.node xd)) xd (.dict (fld r1 r2 r3)) xd = some (.dict (fld r1 r2 r3)) := upd_self _ _ _
  generalize upd (upd (upd H2 xd (.dict [])) x (.inst a.node xd)) xd (.dict (fld r1 r2 r3)) = H3 at le4 e5 e6 ⊢
  have le5 : ∀ z o, H1 z = some o → H3 z = some o := fun z o e => le4 _ _ (le3 _ _ e)
  have hxd' : xd ≠ d := by rintro rfl; rw [le3 _ _ hd1] at hxd; cases hxd
  refine eok_name (v := .ref self) rfl ⟨self, a.canopy, d, _, rfl, P.canopy, by decide, le5 _ _ hS1, le5 _ _ hd1, by show (1 : Nat) < 900; decide, ?_⟩ E.k
  refine sok_cons (sok_setattr P.x (eok_int (eok_name (v := .ref self) rfl ⟨self, a.canopy, d, _, rfl, P.canopy, by decide, by rw [upd_ne hne]; exact le5 _ _ hS1, upd_self _ _ _, by show (2 : Nat) < 900; decide, ?_⟩ E.k)))
  rw [upd_upd]
  refine sok_nil (h _ x (fun z o hz e => by rw [upd_ne hz]; exact le5 _ _ (keep0 z o hz e)) ⟨d, by rw [upd_ne hne]; exact le5 _ _ hS1, upd_self _ _ _⟩ ?_)
  have up : ∀ z o, z ≠ d → H3 z = some o → upd H3 d (.dict (canF t x 0)) z = some o := fun z o hz e => by rw [upd_ne hz]; exact e
  have nd : ∀ z, H2 z = some (.lst []) → z ≠ d := fun z e => by rintro rfl; rw [le3 _ _ hd1] at e; cases e
  simp only [TreeAt, TreesAt]
  exact ⟨xd, r1, r2, r3, [], up _ _ (by rintro rfl; rw [le3 _ _ hd1] at hx; cases hx) e5, up _ _ hxd' e6, up _ _ (nd _ e1) (le4 _ _ e1), up _ _ (nd _ e2) (le4 _ _ e2), up _ _ (nd _ e3) (le4 _ _ e3), rfl⟩
end
end Mine
namespace Mine
open PySem PySem.W PySem.Calls PyProof.Rows

noncomputable def oi : Option Int → AV
  | none => .none
  | some i => .int i
noncomputable def loOk : Option Int → Int → Bool
  | none, _ => true
  | some l, k => decide (l < k)
noncomputable def hiOk : Option Int → Int → Bool
  | none, _ => true
  | some h, k => decide (k < h)
noncomputable def rowAt (lo hi : Option Int) (ks : List Int) (j : Nat) : Bool := loOk lo (ks.getD j 0) && hiOk hi (ks.getD j 0) && (j == 0 || decide (ks.getD (j - 1) 0 < ks.getD j 0))
noncomputable def rowOk (lo hi : Option Int) (ks : List Int) : Bool := (List.range ks.length).all (rowAt lo hi ks)
noncomputable def hdOr : List Int → Option Int → Option Int
  | [], d => d
  | k :: _, _ => some k
mutual
noncomputable def keysB (lo hi : Option Int) : Tree → Bool
  | .node ks _ kids => rowOk lo hi ks && kidsB lo hi ks kids
noncomputable def kidsB (lo hi : Option Int) (ks : List Int) : List Tree → Bool
  | [] => true
  | T :: Ts => keysB lo (hdOr ks hi) T && kidsB (hdOr ks lo) hi ks.tail Ts
end
mutual
noncomputable def nc : Tree → Bool
  | .node ks _ kids => decide (kids.length ≤ ks.length + 1) && ncL kids
noncomputable def ncL : List Tree → Bool
  | [] => true
  | T :: Ts => nc T && ncL Ts
end
theorem ncL_all : ∀ Ts : List Tree, ncL Ts = Ts.all nc
  | [] => rfl
  | T :: Ts => by simp [ncL, ncL_all Ts]

noncomputable def kidsP (hi : Option Int) : Option Int → List Int → List (Tree × Addr) → List (Tree × Addr × Option Int × Option Int)
  | _, _, [] => []
  | lo, ks, p :: ps => (p.1, p.2, lo, hdOr ks hi) :: kidsP hi (hdOr ks lo) ks.tail ps
theorem kidsP_length (hi : Option Int) : ∀ (lo : Option Int) (ks : List Int) (ps : List (Tree × Addr)), (kidsP hi lo ks ps).length = ps.length
  | _, _, [] => rfl
  | lo, ks, p :: ps => by simp [kidsP, kidsP_length hi _ _ ps]
theorem kidsP_get (hi : Option Int) : ∀ (lo : Option Int) (ks : List Int) (ps : List (Tree × Addr)) (j : Nat) (p : Tree × Addr), ps[j]? = some p → j ≤ ks.length →
    (kidsP hi lo ks ps)[j]? = some (p.1, p.2, (if j = 0 then lo else some (ks.getD (j - 1) 0)), (if j < ks.length then some (ks.getD j 0) else hi))
  | _, _, [], j, p, h, _ => by simp at h
  | lo, ks, p' :: ps, 0, p, h, hj => by
    simp at h; subst h
    cases ks <;> simp [kidsP, hdOr]
  | lo, [], p' :: ps, j + 1, p, h, hj => by simp at hj
  | lo, k :: ks, p' :: ps, j + 1, p, h, hj => by
    simp at h hj
    have := kidsP_get hi (some k) ks ps j p h hj
    simp only [kidsP, hdOr, List.tail_cons, List.getElem?_cons_succ, this]
    cases j with
    | zero => simp
    | succ j => simp
theorem kidsP_all (hi : Option Int) : ∀ (lo : Option Int) (ks : List Int) (ps : List (Tree × Addr)), (kidsP hi lo ks ps).all (fun p => keysB p.2.2.1 p.2.2.2 p.1) = kidsB lo hi ks (ps.map (·.1))
  | _, _, [] => by simp [kidsP, kidsB]
  | lo, ks, p :: ps => by simp [kidsP, kidsB, kidsP_all hi _ _ ps]
theorem kidsP_fst (hi : Option Int) : ∀ (lo : Option Int) (ks : List Int) (ps : List (Tree × Addr)), (kidsP hi lo ks ps).map (·.1) = ps.map (·.1)
  | _, _, [] => rfl
  | lo, ks, p :: ps => by simp [kidsP, kidsP_fst hi _ _ ps]
theorem kidsP_mem (hi : Option Int) : ∀ (lo : Option Int) (ks : List Int) (ps : List (Tree × Addr)) (q : Tree × Addr × Option Int × Option Int), q ∈ kidsP hi lo ks ps → (q.1, q.2.1) ∈ ps
  | _, _, [], q, h => by simp [kidsP] at h
  | lo, ks, p :: ps, q, h => by
    simp only [kidsP, List.mem_cons] at h
    rcases h with rfl | h
    · simp
    · simp [kidsP_mem hi _ _ ps q h]

section
variable {c : Cx} {A : Around} {env : Env} {m : LM} {H : AH} {Q : AV → AH → Prop} {K : Frag} {a : Ads} {ls gs : List Str}

theorem sc_cKeys : scOk mCKeys.sc ["self", "node", "low", "high", "stack", "top", "here", "row", "i", "j", "lo", "hi"] ["len", "range"] = true := by decide +kernel

theorem sok_if_set {test e : Expr} {x : Str} {px pos pos' : Pos} {bv : Bool} {v0 v1 : AV} {Q : AFl → LM → AH → Prop} (hx : m x = some v0) (ht : TOk c A env test m H fun b H₁ => b = bv ∧ H₁ = H) (he : bv = true → EOk c A env e m H fun v H₁ => v = v1 ∧ H₁ = H) (hst : Stores env x) (hk : env.scope.kind = .function)
    (h : ∀ m2 : LM, m2 x = some (if bv = true then v1 else v0) → (∀ z, z ≠ x → m2 z = m z) → Q .next m2 H) (hs : swapsWith e (some (.Name x px)) pos.line env = pure false := by rfl) : SOk c A env (exec (.If test [.Assign [.Name x px] e pos] [] pos') env) m H Q := by
  refine sok_if_eq ht (fun e1 => sok_cons (sok_assign ((he e1).mono ?_) hst hk hs)) (fun e1 => sok_nil (h m ?_ fun _ _ => rfl))
  · intro v H₁ hv
    rw [hv.1, hv.2]
    refine sok_nil (h _ ?_ fun z hz => ?_)
    · simp [updM, e1]
    · simp only [updM]; rw [if_neg hz]
  · rw [e1]; simpa using hx

theorem rng_get {n i : Nat} {y : AV} (h : ((List.range n).map fun i : Nat => AV.int (0 + (i : Int) * 1))[i]? = some y) : i < n ∧ y = .int i := by
  have hi : i < n := by simpa using (List.getElem?_eq_some_iff.mp h).1
  simp [hi] at h
  exact ⟨hi, h.symm⟩

theorem keys_ok {k : Nat} {self x : Addr} {T : Tree} {lo hi : Option Int} (P : Prog c K a) (hA : AOk k A) (hk : k < 80) (hT : TreeAt a H T x) (hnc : nc T = true) (hsz : wt T < 2 ^ 20) (h : Q (.bool (keysB lo hi T)) H) :
    CodeOk c A (.ref a.cKeys) [.ref self] [.ref x, oi lo, oi hi] H Q := by
  refine CodeOk.forget (call_fn (ps := ["self", "node", "low", "high"]) (fvs := [.ref self]) P.x P.nolimit P.cKeys.at_ (takes_of sc_cKeys (by decide) (by decide) (fun _ _ _ _ _ _ _ => len4 fun _ _ _ _ => rfl)) (by have := hA.d; simp [recursionLimit]; omega) rfl (fun h => by simp [VRs, VR]) fun L q cd => ?_)
  have E := env0 sc_cKeys L a.cKeys q cd
  have hA' := hA.deeper (fenv mCKeys.sc L a.cKeys q cd)
  generalize A.deeper (fenv mCKeys.sc L a.cKeys q cd) = A' at hA' ⊢
  generalize fenv mCKeys.sc L a.cKeys q cd = env at E ⊢
  have gl := E.len_ P
  have gr := E.range_ P
  refine sok_cons (sok_assign (eok_list (esok_cons (eok_tuple (esok_cons (eok_name (v := .ref x) rfl (esok_cons (eok_name (v := oi lo) rfl (esok_cons (eok_name (v := oi hi) rfl (esok_nil ⟨Nat.le_of_ble_eq_true rfl, esok_nil ⟨Nat.le_of_ble_eq_true rfl, fun st hst => ?_⟩⟩) E.k)) E.k)) E.k))))) (E.st (by decide)) E.k)
  let II1 : List (Tree × Addr × Option Int × Option Int) → LM → AH → Prop := fun stk m' H' => C5 (H' = upd H st (.lst (stk.map fun p => .tup [.ref p.2.1, oi p.2.2.1, oi p.2.2.2]))) ((∀ p ∈ stk, TreeAt a H p.1 p.2.1 ∧ nc p.1 = true)) (m' "stack" = some (.ref st)) (stk.all (fun p => keysB p.2.2.1 p.2.2.2 p.1) = keysB lo hi T) (wtL (stk.map (·.1)) ≤ wt T)
  refine sok_cons (sok_stack (σ := Tree × Addr × Option Int × Option Int) (st := st) E gl (by decide) (by decide) (fun p => .tup [.ref p.2.1, oi p.2.2.1, oi p.2.2.2]) (fun stk => wtL (stk.map (·.1))) II1 [(T, x, lo, hi)] ⟨rfl, by simpa using ⟨hT, hnc⟩, rfl, by simp, by simp [wtL]⟩ ?_ ?_ ?_)
  · rintro stk m' H' ⟨rfl, _, h1, _, h2⟩
    have := wtL_ge (stk.map (·.1))
    simp only [List.length_map] at this
    exact ⟨h1, upd_self _ _ _, by omega⟩
  · rintro m' H' ⟨rfl, _, _, hall, _⟩
    refine sok_cons (sok_return (eok_bool ⟨H, upd_le hst, ?_⟩))
    simp only [List.all_nil] at hall
    rw [hall]; exact h
  · rintro rest ⟨T0, y, l0, h0⟩ m' H' ⟨rfl, hstk, hms, hall, hle⟩
    obtain ⟨hT0, hnc0⟩ := hstk (T0, y, l0, h0) (by simp)
    obtain ⟨ks, vs, kids⟩ := T0
    simp only [TreeAt] at hT0
    obtain ⟨d, kk, v, cc, cs, h1, h2, h3, h4, h5, h6⟩ := hT0
    simp only [nc, Bool.and_eq_true, decide_eq_true_eq] at hnc0
    rw [List.map_append, wtL_append] at hle
    simp only [List.map_cons, List.map_nil, wtL, wt, Nat.add_zero] at hle
    have hkids : kids.length ≤ wtL kids := wtL_ge kids
    have hrest : rest.length ≤ wtL (rest.map (·.1)) := by simpa using wtL_ge (rest.map (·.1))
    have hcl := h6.length
    rw [List.all_append, List.all_cons, List.all_nil, Bool.and_true] at hall
    simp only [keysB] at hall
    have bad : rowOk l0 h0 ks = false → keysB lo hi T = false := fun e => by rw [← hall, e]; simp
    have hcst : cc ≠ st := by rintro rfl; rw [hst] at h5; cases h5
    rw [upd_upd]
    dsimp only
    refine sok_cons (sok_assign (eok_item_tup (eok_name (v := .tup [.ref y, oi l0, oi h0]) rfl (eok_int ⟨_, _, _, rfl, rfl, by decide, by decide, rfl, ?_⟩) E.k)) (E.st (by decide)) E.k)
    refine sok_cons (sok_assign (node_attr P (eok_name (v := .ref y) rfl ⟨rfl, upd_get hst h1, upd_get hst h2, ?_⟩ E.k) (by decide) (by rfl)) (E.st (by decide)) E.k)
    have hm0 : ∀ m2 : LM, (∀ z : Str, z ≠ "i" → m2 z = updM (updM (updM m' "top" (.tup [.ref y, oi l0, oi h0])) "here" (.ref y)) "row" (.ref kk) z) → m2 "stack" = some (.ref st) ∧ m2 "top" = some (.tup [.ref y, oi l0, oi h0]) ∧ m2 "here" = some (.ref y) ∧ m2 "row" = some (.ref kk) := fun m2 hm2 => ⟨(hm2 _ (by decide)).trans hms, hm2 _ (by decide), hm2 _ (by decide), hm2 _ (by decide)⟩
    let JJ1 : Nat → LM → AH → Prop := fun i m2 H2 => C3 ((∀ z : Str, z ≠ "i" → m2 z = updM (updM (updM m' "top" (.tup [.ref y, oi l0, oi h0])) "here" (.ref y)) "row" (.ref kk) z)) (H2 = upd H st (.lst (rest.map fun p => .tup [.ref p.2.1, oi p.2.2.1, oi p.2.2.2]))) ((List.range i).all (rowAt l0 h0 ks) = true)
    refine sok_cons (sok_for hA'.h (eok_callT gr (esok_cons (eok_callB gl (esok_cons (eok_name (v := .ref kk) rfl (esok_nil (cok_len (n := ks.length) (by simp [alen, upd_get hst h3]) (by omega) (esok_nil (cok_range1 (by omega) (by omega) ⟨_, rfl, JJ1, ⟨fun _ _ => rfl, rfl, rfl⟩, ?_, ?_⟩)))) E.k))))) (E.st (by decide)) E.k)
    · rintro i m2 H2 iv ⟨hm2, rfl, hpre⟩ hy
      obtain ⟨hi, rfl⟩ := rng_get hy
      rw [Int.toNat_natCast] at hi
      obtain ⟨hs2, ht2, hh2, hr2⟩ := hm0 m2 hm2
      refine ⟨rfl, ?_⟩
      have hrow : rowAt l0 h0 ks i = false → rowOk l0 h0 ks = false := fun e => by
        simp only [rowOk, List.all_eq_false]
        exact ⟨i, by simpa using hi, by simp [e]⟩
      have ret : ∀ (m3 : LM) (p1 p2 : Pos) (k0 : Nat), rowAt l0 h0 ks i = false → ∀ Q1 : AFl → LM → AH → Prop, (∀ v m4 H4, (∃ H'', (∀ x o, H'' x = some o → H4 x = some o) ∧ Q v H'') → Q1 (.ret v) m4 H4) → SOk c A' env (execs [.Return (some (.Constant (.bool false) k0 p1)) p2] env) m3 (upd H st (.lst (rest.map fun p => .tup [.ref p.2.1, oi p.2.2.1, oi p.2.2.2]))) Q1 := fun m3 p1 p2 k0 e Q1 hQ1 =>
        sok_cons (sok_return (eok_bool (hQ1 _ _ _ ⟨H, upd_le hst, by rw [bad (hrow e)] at h; exact h⟩)))
      have top2 : ∀ v : AV, updM m2 "i" v "top" = some (.tup [.ref y, oi l0, oi h0]) := fun v => by simp only [updM]; rw [if_neg (by decide)]; exact ht2
      have row2 : ∀ v : AV, updM m2 "i" v "row" = some (.ref kk) := fun v => by simp only [updM]; rw [if_neg (by decide)]; exact hr2
      have i2 : ∀ v : AV, updM m2 "i" v "i" = some v := fun v => by simp [updM]
      have getK : ∀ j, j < ks.length → (ks.map AV.int)[j]? = some (.int (ks.getD j 0)) := fun j hj => by simp [hj]
      refine sok_cons (sok_if_eq (bv := !loOk l0 (ks.getD i 0)) (tok_boolop (all_and_cons (tok_cmp (eok_item_tup (eok_name (top2 _) (eok_int ⟨_, _, _, rfl, rfl, by decide, by decide, rfl, eok_none (cmp_isNot_none ⟨_, rfl, ?_⟩)⟩) E.k))))) (fun e => ret _ _ _ _ (by simp only [rowAt]; rw [Bool.not_eq_true'] at e; rw [e]; rfl) _ fun _ _ _ z => z) (fun e1 => sok_nil ?_))
      · cases l0 with
        | none => exact ite_f ⟨rfl, rfl⟩
        | some l0 =>
          refine ite_t (all_and_cons (tok_cmp (eok_item_lst (eok_name (row2 _) (eok_name (i2 _) ⟨kk, _, _, _, rfl, rfl, upd_get hst h3, by omega, by omega, getK i (by omega), eok_item_tup (eok_name (top2 _) (eok_int ⟨_, _, _, rfl, rfl, by decide, by decide, rfl, cmp_le ⟨_, rfl, ?_⟩⟩) E.k)⟩ E.k) E.k))))
          have : decide (ks.getD i 0 ≤ l0) = !loOk (some l0) (ks.getD i 0) := by rw [Bool.eq_iff_iff]; simp [loOk]
          rw [this]
          exact ite_b (fun e => all_and_nil ⟨e.symm, rfl⟩) (fun e => ⟨e.symm, rfl⟩)
      refine sok_cons (sok_if_eq (bv := !hiOk h0 (ks.getD i 0)) (tok_boolop (all_and_cons (tok_cmp (eok_item_tup (eok_name (top2 _) (eok_int ⟨_, _, _, rfl, rfl, by decide, by decide, rfl, eok_none (cmp_isNot_none ⟨_, rfl, ?_⟩)⟩) E.k))))) (fun e => ret _ _ _ _ (by simp only [rowAt]; rw [Bool.not_eq_true'] at e; rw [e]; simp) _ fun _ _ _ z => z) (fun e2 => sok_nil ?_))
      · cases h0 with
        | none => exact ite_f ⟨rfl, rfl⟩
        | some h0 =>
          refine ite_t (all_and_cons (tok_cmp (eok_item_lst (eok_name (row2 _) (eok_name (i2 _) ⟨kk, _, _, _, rfl, rfl, upd_get hst h3, by omega, by omega, getK i (by omega), eok_item_tup (eok_name (top2 _) (eok_int ⟨_, _, _, rfl, rfl, by decide, by decide, rfl, cmp_ge ⟨_, rfl, ?_⟩⟩) E.k)⟩ E.k) E.k))))
          have : decide (ks.getD i 0 ≥ h0) = !hiOk (some h0) (ks.getD i 0) := by rw [Bool.eq_iff_iff]; simp [hiOk]
          rw [this]
          exact ite_b (fun e => all_and_nil ⟨e.symm, rfl⟩) (fun e => ⟨e.symm, rfl⟩)
      refine sok_cons (sok_if_eq (bv := !(i == 0 || decide (ks.getD (i - 1) 0 < ks.getD i 0))) (tok_boolop (all_and_cons (tok_cmp (eok_name (i2 _) (eok_int (cmp_gt ⟨_, rfl, ?_⟩)) E.k)))) (fun e => ret _ _ _ _ (by simp only [rowAt]; rw [Bool.not_eq_true'] at e; rw [e]; simp) _ fun _ _ _ z => z) (fun e3 => sok_nil (sok_nil ⟨fun z hz => ?_, rfl, ?_⟩)))
      · refine ite_b (fun e => ?_) (fun e => ⟨?_, rfl⟩)
        · have hi0 : 0 < i := by simpa using e
          refine all_and_cons (tok_cmp (eok_item_lst (eok_name (row2 _) (eok_name (i2 _) ⟨kk, _, _, _, rfl, rfl, upd_get hst h3, by omega, by omega, getK i (by omega), eok_item_lst (eok_name (row2 _) (eok_binop (eok_name (i2 _) (eok_int (bin_sub ⟨kk, _, _, .int (ks.getD (i - 1) 0), rfl, rfl, upd_get hst h3, by omega, by omega, ?_, cmp_le ⟨_, rfl, ?_⟩⟩)) E.k)) E.k)⟩ E.k) E.k)))
          · rw [show ((i : Int) - 1).toNat = i - 1 by omega]
            exact getK (i - 1) (by omega)
          · have : decide (ks.getD i 0 ≤ ks.getD (i - 1) 0) = !(i == 0 || decide (ks.getD (i - 1) 0 < ks.getD i 0)) := by
              rw [Bool.eq_iff_iff]; simp; omega
            rw [this]
            exact ite_b (fun e => all_and_nil ⟨e.symm, rfl⟩) (fun e => ⟨e.symm, rfl⟩)
        · have : i = 0 := by simpa using e
          subst this; rfl
      · simp only [updM]; rw [if_neg hz]; exact hm2 z hz
      · rw [List.range_succ, List.all_append, hpre]
        simp only [Bool.not_eq_false'] at e1 e2 e3
        simp only [List.all_cons, List.all_nil, rowAt, e1, e2, e3, Bool.and_true]
    · rintro m2 H2 ⟨hm2, rfl, hpre⟩
      refine ⟨rfl, ?_⟩
      have hrow : rowOk l0 h0 ks = true := by simpa [rowOk] using hpre
      obtain ⟨hs2, ht2, hh2, hr2⟩ := hm0 m2 hm2
      rw [hrow, Bool.true_and] at hall
      have hzl : (kids.zip cs).length = kids.length := by simp [hcl]
      refine sok_cons (sok_for hA'.h (eok_callT gr (esok_cons (eok_callB gl (esok_cons (node_attr P (eok_name (v := .ref y) hh2 ⟨rfl, upd_get hst h1, upd_get hst h2, ?_⟩ E.k) (by decide) (by rfl)))))) (E.st (by decide)) E.k)
      let JJ2 : Nat → LM → AH → Prop := fun j m3 H3 => C5 (m3 "stack" = some (.ref st)) (m3 "top" = some (.tup [.ref y, oi l0, oi h0])) (m3 "here" = some (.ref y)) (m3 "row" = some (.ref kk)) (H3 = upd H st (.lst ((rest ++ (kidsP h0 l0 ks (kids.zip cs)).take j).map fun p => .tup [.ref p.2.1, oi p.2.2.1, oi p.2.2.2])))
      refine esok_nil (cok_len (n := kids.length) (by simp [alen, upd_get hst h5, hcl]) (by omega) (esok_nil (cok_range1 (by omega) (by omega) ⟨_, rfl, JJ2, ⟨hs2, ht2, hh2, hr2, by simp⟩, ?_, ?_⟩)))
      · rintro j m3 H3 jv ⟨hs3, ht3, hh3, hr3, rfl⟩ hy
        obtain ⟨hj, rfl⟩ := rng_get hy
        rw [Int.toNat_natCast] at hj
        refine ⟨rfl, ?_⟩
        have hcj : cs[j]? = some cs[j] := List.getElem?_eq_getElem (by omega)
        have hz : (kids.zip cs)[j]? = some (kids[j], cs[j]) := by
          rw [List.getElem?_eq_getElem (by omega), List.getElem_zip]
        have hP := kidsP_get h0 l0 ks (kids.zip cs) j _ hz (by omega)
        refine sok_cons (sok_assign (eok_item_tup (eok_name (v := .tup [.ref y, oi l0, oi h0]) (by simp only [updM]; rw [if_neg (by decide)]; exact ht3) (eok_int ⟨_, _, _, rfl, rfl, by decide, by decide, rfl, ?_⟩) E.k)) (E.st (by decide)) E.k)
        refine sok_cons (sok_assign (eok_item_tup (eok_name (v := .tup [.ref y, oi l0, oi h0]) (by simp only [updM]; rw [if_neg (by decide), if_neg (by decide)]; exact ht3) (eok_int ⟨_, _, _, rfl, rfl, by decide, by decide, rfl, ?_⟩) E.k)) (E.st (by decide)) E.k)
        refine sok_cons (sok_if_set (v0 := oi l0) (v1 := .int (ks.getD (j - 1) 0)) (bv := decide ((j : Int) > 0)) (by simp only [updM]; rw [if_neg (by decide), if_pos trivial]) (tok_cmp (eok_name (v := .int j) (by simp only [updM]; rw [if_neg (by decide), if_neg (by decide), if_pos trivial]) (eok_int (cmp_gt ⟨_, rfl, rfl, rfl⟩)) E.k)) (fun e => ?_) (E.st (by decide)) E.k fun m4 hlo4 hm4 => ?_)
        · have e : 0 < j := by simpa using e
          refine eok_item_lst (eok_name (v := .ref kk) (by simp only [updM]; rw [if_neg (by decide), if_neg (by decide), if_neg (by decide)]; exact hr3) (eok_binop (eok_name (v := .int j) (by simp only [updM]; rw [if_neg (by decide), if_neg (by decide), if_pos trivial]) (eok_int (bin_sub ⟨kk, _, _, _, rfl, rfl, upd_get hst h3, by omega, by omega, ?_, rfl, rfl⟩)) E.k)) E.k)
          rw [show ((j : Int) - 1).toNat = j - 1 by omega]
          have hlt : j - 1 < ks.length := by omega
          simp [hlt]
        have hj4 : m4 "j" = some (.int j) := (hm4 _ (by decide)).trans (by simp only [updM]; rw [if_neg (by decide), if_neg (by decide), if_pos trivial])
        have hr4 : m4 "row" = some (.ref kk) := (hm4 _ (by decide)).trans (by simp only [updM]; rw [if_neg (by decide), if_neg (by decide), if_neg (by decide)]; exact hr3)
        have hh4 : m4 "hi" = some (oi h0) := (hm4 _ (by decide)).trans (by simp only [updM]; rw [if_pos trivial])
        have ho4 : ∀ z : Str, z ≠ "lo" → z ≠ "hi" → z ≠ "j" → m4 z = m3 z := fun z e1 e2 e3 => (hm4 z e1).trans (by simp only [updM]; rw [if_neg e2, if_neg e1, if_neg e3])
        refine sok_cons (sok_if_set (v0 := oi h0) (v1 := .int (ks.getD j 0)) (bv := decide ((j : Int) < ks.length)) hh4 (tok_cmp (eok_name (v := .int j) hj4 (eok_callB gl (esok_cons (eok_name (v := .ref kk) hr4 (esok_nil (cok_len (n := ks.length) (by simp [alen, upd_get hst h3]) (by omega) (cmp_lt ⟨_, rfl, rfl, rfl⟩))) E.k))) E.k)) (fun e => ?_) (E.st (by decide)) E.k fun m5 hhi5 hm5 => ?_)
        · have e : j < ks.length := by simpa using e
          exact eok_item_lst (eok_name (v := .ref kk) hr4 (eok_name (v := .int j) hj4 ⟨kk, _, _, _, rfl, rfl, upd_get hst h3, by omega, by omega, by simp [e], rfl, rfl⟩ E.k) E.k)
        have hj5 : m5 "j" = some (.int j) := (hm5 _ (by decide)).trans hj4
        have hlo5 := (hm5 "lo" (by decide)).trans hlo4
        have hs5 : m5 "stack" = some (.ref st) := (hm5 _ (by decide)).trans ((ho4 _ (by decide) (by decide) (by decide)).trans hs3)
        have ht5 : m5 "top" = _ := (hm5 _ (by decide)).trans ((ho4 _ (by decide) (by decide) (by decide)).trans ht3)
        have hh5 : m5 "here" = some (.ref y) := (hm5 _ (by decide)).trans ((ho4 _ (by decide) (by decide) (by decide)).trans hh3)
        have hr5 : m5 "row" = some (.ref kk) := (hm5 _ (by decide)).trans hr4
        refine sok_cons (sok_expr (eok_append (pl := _) (eok_name (v := .ref st) hs5 ⟨st, _, rfl, upd_self _ _ _, eok_tuple (esok_cons (eok_item_lst (node_attr P (eok_name (v := .ref y) hh5 ⟨rfl, upd_get hst h1, upd_get hst h2, ?_⟩ E.k) (by decide) (by rfl))))⟩ E.k)) E.i)
        refine eok_name (v := .int j) hj5 ⟨cc, _, _, .ref cs[j], rfl, rfl, upd_get hst h5, by omega, by omega, by simp [hcl, hj], ?_⟩ E.k
        refine esok_cons (eok_name hlo5 (esok_cons (eok_name hhi5 (esok_nil ⟨Nat.le_of_ble_eq_true rfl, _, upd_self _ _ _, ?_, rfl, ?_⟩) E.k)) E.k)
        · simp only [List.length_map, List.length_append, List.length_take, kidsP_length, hzl, sizeLine]; omega
        · refine sok_nil ⟨hs5, ht5, hh5, hr5, ?_⟩
          rw [upd_upd]
          have hlt : j < (kidsP h0 l0 ks (kids.zip cs)).length := by rw [kidsP_length]; omega
          rw [take_snoc _ hlt]
          rw [List.getElem?_eq_getElem hlt] at hP
          rw [Option.some.inj hP]
          have e1 : (if decide ((j : Int) > 0) = true then AV.int (ks.getD (j - 1) 0) else oi l0) = oi (if j = 0 then l0 else some (ks.getD (j - 1) 0)) := by
            by_cases hj0 : j = 0
            · subst hj0; simp [oi]
            · have : 0 < j := by omega
              simp [hj0, this, oi]
          have e2 : (if decide ((j : Int) < ks.length) = true then AV.int (ks.getD j 0) else oi h0) = oi (if j < ks.length then some (ks.getD j 0) else h0) := by
            by_cases hj0 : j < ks.length
            · simp [hj0, oi]
            · simp [hj0]
          rw [e1, e2]
          simp only [List.map_append, List.map_cons, List.map_nil, List.append_assoc]
      · rintro m3 H3 ⟨hs3, ht3, hh3, hr3, rfl⟩
        refine ⟨rfl, ?_⟩
        have : (kidsP h0 l0 ks (kids.zip cs)).take ((List.range (kids.length : Int).toNat).map fun i : Nat => AV.int (0 + (i : Int) * 1)).length = kidsP h0 l0 ks (kids.zip cs) := List.take_of_length_le (by simp [kidsP_length, hcl])
        rw [this]
        have hw : wtL ((kidsP h0 l0 ks (kids.zip cs)).map (·.1)) = wtL kids := by rw [kidsP_fst, wtL_zip hcl]
        refine sok_nil ⟨rest ++ kidsP h0 l0 ks (kids.zip cs), ?_, rfl, ?_, hs3, ?_, ?_⟩
        · simp only [List.map_append, wtL_append, hw, List.map_cons, List.map_nil, wtL, wt]; omega
        · intro p hp
          rcases List.mem_append.mp hp with hp | hp
          · exact hstk p (by simp [hp])
          · have hp := kidsP_mem _ _ _ _ _ hp
            refine ⟨h6.zip _ hp, ?_⟩
            have h2 := hnc0.2
            rw [ncL_all, List.all_eq_true] at h2
            exact h2 _ ((zip_mem hcl).mpr ⟨_, hp, rfl⟩)
        · rw [List.all_append, kidsP_all, zip_fst (fun x => x) kids cs hcl, List.map_id']; exact hall
        · simp only [List.map_append, wtL_append, hw]; omega
end
end Mine
namespace Mine
open PySem PySem.W PySem.Calls PyProof.Rows

mutual
theorem shp_nc {t : Int} : ∀ {T : Tree} {r : Bool}, shp t r T = true → nc T = true
  | .node ks vs kids, r, h => by
    simp only [shp, nodeOk, Bool.and_eq_true, Bool.or_eq_true, beq_iff_eq] at h
    simp only [nc, Bool.and_eq_true, decide_eq_true_eq]
    exact ⟨by omega, shpL_ncL h.2⟩
theorem shpL_ncL {t : Int} : ∀ {Ts : List Tree}, shpL t Ts = true → ncL Ts = true
  | [], _ => rfl
  | T :: Ts, h => by
    simp only [shpL, Bool.and_eq_true] at h
    simp only [ncL, Bool.and_eq_true]
    exact ⟨shp_nc h.1, shpL_ncL h.2⟩
end

noncomputable def chkB (t n : Int) (T : Tree) : Bool := shp t true T && keysB none none T && decide (levOf (leafD 0 T) ≥ 0) && cnt T == n

section
variable {c : Cx} {A : Around} {env : Env} {m : LM} {H : AH} {Q : AV → AH → Prop} {K : Frag} {a : Ads} {ls gs : List Str}

theorem sc_cCheck : scOk mCCheck.sc ["self"] [] = true := by decide +kernel
theorem check_ok {k : Nat} {self x : Addr} {T : Tree} {t n : Int} (P : Prog c K a) (hA : AOk k A) (hk : k < 70) (hS : CanAt a H self t x n) (hT : TreeAt a H T x) (hsz : wt T < 2 ^ 20) (h : Q (.bool (chkB t n T)) H) :
    CodeOk c A (.ref a.cCheck) [.ref self] [] H Q := by
  refine (call_fn (ps := ["self"]) (fvs := [.ref self]) P.x P.nolimit P.cCheck.at_ (takes_of sc_cCheck (by decide) (by decide) (fun _ _ _ _ _ _ _ => len1 fun _ => rfl)) (by have := hA.d; simp [recursionLimit]; omega) rfl (fun h => by simp [VRs, VR]) fun L q cd => ?_)
  have E := env0 sc_cCheck L a.cCheck q cd
  have hA' := hA.deeper (fenv mCCheck.sc L a.cCheck q cd)
  generalize A.deeper (fenv mCCheck.sc L a.cCheck q cd) = A' at hA' ⊢
  generalize fenv mCCheck.sc L a.cCheck q cd = env at E ⊢
  refine sok_cons (sok_if_eq (bv := !shp t true T) (tok_not (tok_value (can_meth P P.cShape (t := t) (r := x) (n := n) rfl (eok_name (v := .ref self) rfl ⟨rfl, hS, esok_cons (can_attr P (eok_name (v := .ref self) rfl ⟨rfl, hS, esok_cons (eok_bool (esok_nil (shape_ok P hA' (by omega) hS hT hsz ⟨_, rfl, rfl, rfl⟩)))⟩ E.k) (by simp [canFields]) (by rfl))⟩ E.k)))) (fun e => ?_) (fun e1 => sok_nil ?_))
  · refine sok_cons (sok_return (eok_bool ?_))
    rw [Bool.not_eq_true'] at e
    unfold chkB at h
    rw [e] at h; exact h
  rw [Bool.not_eq_false'] at e1
  refine sok_cons (sok_if_eq (bv := !keysB none none T) (tok_not (tok_value (can_meth P P.cKeys (t := t) (r := x) (n := n) rfl (eok_name (v := .ref self) rfl ⟨rfl, hS, esok_cons (can_attr P (eok_name (v := .ref self) rfl ⟨rfl, hS, esok_cons (eok_none (esok_cons (eok_none (esok_nil (keys_ok (lo := none) (hi := none) P hA' (by omega) hT (shp_nc e1) hsz ⟨_, rfl, rfl, rfl⟩)))))⟩ E.k) (by simp [canFields]) (by rfl))⟩ E.k)))) (fun e => ?_) (fun e2 => sok_nil ?_))
  · refine sok_cons (sok_return (eok_bool ?_))
    rw [Bool.not_eq_true'] at e
    unfold chkB at h
    rw [e1, e] at h; exact h
  rw [Bool.not_eq_false'] at e2
  refine sok_cons (sok_if_eq (bv := decide (levOf (leafD 0 T) < 0)) (tok_cmp (can_meth P P.cLevel (t := t) (r := x) (n := n) rfl (eok_name (v := .ref self) rfl ⟨rfl, hS, esok_cons (can_attr P (eok_name (v := .ref self) rfl ⟨rfl, hS, esok_nil (level_ok P hA' (by omega) hT hsz (eok_int (cmp_lt ⟨_, rfl, rfl, rfl⟩)))⟩ E.k) (by simp [canFields]) (by rfl))⟩ E.k))) (fun e => ?_) (fun e3 => sok_nil ?_))
  · refine sok_cons (sok_return (eok_bool ?_))
    have e : decide (levOf (leafD 0 T) ≥ 0) = false := by simpa using e
    unfold chkB at h
    rw [e1, e2, e] at h; exact h
  have e3 : decide (levOf (leafD 0 T) ≥ 0) = true := by simpa using e3
  have hw := cnt_wt T
  have hw2 := nodes_wt T
  refine sok_cons (sok_return (eok_cmp (can_meth P P.cCount (t := t) (r := x) (n := n) rfl (eok_name (v := .ref self) rfl ⟨rfl, hS, esok_cons (can_attr P (eok_name (v := .ref self) rfl ⟨rfl, hS, esok_nil (count_ok P hA' (by omega) hT (by omega) (by omega) (can_attr P (eok_name (v := .ref self) rfl ⟨rfl, hS, cmp_eq ?_⟩ E.k) (by simp [canFields]) (by rfl)))⟩ E.k) (by simp [canFields]) (by rfl))⟩ E.k))))
  unfold chkB at h
  rw [e1, e2, e3] at h
  simp only [Bool.true_and] at h
  exact h
end
end Mine
namespace Mine
open PySem PySem.W PySem.Calls PyProof.Rows

noncomputable def Le (H H' : AH) : Prop := ∀ x o, H x = some o → H' x = some o
theorem Le.refl (H : AH) : Le H H := fun _ _ e => e
theorem Le.trans {H H1 H2 : AH} (x : Le H H1) (y : Le H1 H2) : Le H H2 := fun a o e => y a o (x a o e)
theorem le_upd {H : AH} {a : Addr} {o : AO} (h : H a = none) : Le H (upd H a o) := upd_le h

noncomputable abbrev Fact := Nat × Nat × Nat × Int
noncomputable def fAV (f : Fact) : AV := .tup [.int f.1, .int f.2.1, .int f.2.2.1, .int f.2.2.2]
mutual
noncomputable def factsT (d : Int) : Tree → List Fact
  | .node ks vs kids => (ks.length, vs.length, kids.length, d) :: factsTL (d + 1) kids
noncomputable def factsTL (d : Int) : List Tree → List Fact
  | [] => []
  | T :: Ts => factsT d T ++ factsTL d Ts
end
mutual
noncomputable def seqT : Tree → List Int
  | .node ks _ kids => seqK ks kids
noncomputable def seqK (ks : List Int) : List Tree → List Int
  | [] => ks
  | T :: Ts => seqT T ++ (ks.take 1 ++ seqK (ks.drop 1) Ts)
end
noncomputable def seqP (ks : List Int) : List Tree → List Int
  | [] => []
  | T :: Ts => seqT T ++ (ks.take 1 ++ seqP (ks.drop 1) Ts)
theorem seqP_K : ∀ (Ts : List Tree) (ks : List Int), seqK ks Ts = seqP ks Ts ++ ks.drop Ts.length
  | [], ks => by simp [seqK, seqP]
  | T :: Ts, ks => by simp [seqK, seqP, seqP_K Ts]
theorem seqP_snoc : ∀ (Ts : List Tree) (T : Tree) (ks : List Int), seqP ks (Ts ++ [T]) = seqP ks Ts ++ (seqT T ++ (ks.drop Ts.length).take 1)
  | [], T, ks => by simp [seqP]
  | T' :: Ts, T, ks => by simp [seqP, seqP_snoc Ts T]
theorem factsTL_append (d : Int) : ∀ Ts Us : List Tree, factsTL d (Ts ++ Us) = factsTL d Ts ++ factsTL d Us
  | [], Us => by simp [factsTL]
  | T :: Ts, Us => by simp [factsTL, factsTL_append d Ts Us]
mutual
theorem factsT_length : ∀ (T : Tree) (d : Int), (factsT d T).length = nodes T
  | .node ks vs kids, d => by have := factsTL_length kids (d + 1); simp only [factsT, nodes, List.length_cons]; omega
theorem factsTL_length : ∀ (Ts : List Tree) (d : Int), (factsTL d Ts).length = nodesL Ts
  | [], d => rfl
  | T :: Ts, d => by have := factsT_length T d; have := factsTL_length Ts d; simp only [factsTL, nodesL, List.length_append]; omega
end
mutual
theorem seqT_length : ∀ (T : Tree), (seqT T).length = cnt T
  | .node ks vs kids => by have := seqK_length kids ks; simp only [seqT, cnt]; omega
theorem seqK_length : ∀ (Ts : List Tree) (ks : List Int), (seqK ks Ts).length = ks.length + cntL Ts
  | [], ks => by simp [seqK, cntL]
  | T :: Ts, ks => by have := seqT_length T; have := seqK_length Ts (ks.drop 1); simp only [seqK, cntL, List.length_append, List.length_take, List.length_drop] at *; omega
end
theorem wtL_take (Ts : List Tree) (j : Nat) : wtL (Ts.take j) ≤ wtL Ts := by
  have := wtL_append (Ts.take j) (Ts.drop j)
  rw [List.take_append_drop] at this; omega
theorem seqP_le (Ts : List Tree) (ks : List Int) : (seqP ks Ts).length ≤ ks.length + wtL Ts := by
  have h1 := congrArg List.length (seqP_K Ts ks)
  have h2 := seqK_length Ts ks
  have h3 := cntL_wtL Ts
  rw [List.length_append] at h1
  omega

/-- what lay gives -/
noncomputable abbrev LR := Tree × Addr × Addr × Addr × Addr
noncomputable def lAV (p : LR) : AV := .tup [.ref p.2.1, .ref p.2.2.1, .ref p.2.2.2.1, .ref p.2.2.2.2]
structure Laid (a : Ads) (H : AH) (d : Int) (p : LR) : Prop where
  tree : TreeAt a H p.1 p.2.1
  fi : H p.2.2.1 = some (.lst ((flatT p.1).map .int))
  ff : H p.2.2.2.1 = some (.lst ((factsT d p.1).map fAV))
  fs : H p.2.2.2.2 = some (.lst ((seqT p.1).map .int))
theorem Laid.mono {a : Ads} {H H' : AH} {d : Int} {p : LR} (k : Le H H') (h : Laid a H d p) : Laid a H' d p := ⟨h.tree.mono k, k _ _ h.fi, k _ _ h.ff, k _ _ h.fs⟩
theorem treesAt_of {a : Ads} {H : AH} {d : Int} : ∀ {ls : List LR}, (∀ p ∈ ls, Laid a H d p) → TreesAt a H (ls.map (·.1)) (ls.map (·.2.1))
  | [], _ => by simp [TreesAt]
  | p :: ls, h => by
    simp only [List.map_cons, TreesAt]
    exact ⟨_, _, rfl, (h p (by simp)).tree, treesAt_of fun q hq => h q (by simp [hq])⟩

theorem filter_all {α : Type} (xs : List α) : xs.filter (fun _ => true) = xs := by simp
theorem clip_nat (n j : Nat) : clipAt n (j : Int) = min j n := by
  unfold clipAt
  split <;> omega
theorem aslice_nat {xs : List AV} {i j : Nat} : aslice xs (some (i : Int)) (some (j : Int)) = (xs.drop (min i xs.length)).take (min j xs.length - min i xs.length) := by
  simp only [aslice, Option.elim, clip_nat]
theorem aslice_one {xs : List AV} {i : Nat} : aslice xs (some (i : Int)) (some ((i : Int) + 1)) = (xs.drop i).take 1 := by
  have := aslice_nat (xs := xs) (i := i) (j := i + 1)
  rw [show (((i + 1 : Nat) : Int)) = (i : Int) + 1 by omega] at this
  rw [this]
  by_cases h : i < xs.length
  · rw [Nat.min_eq_left (Nat.le_of_lt h), Nat.min_eq_left (show i + 1 ≤ xs.length from h)]; congr 1; omega
  · rw [Nat.min_eq_right (by omega), Nat.min_eq_right (by omega), List.drop_length, List.drop_eq_nil_of_le (by omega)]; simp
theorem aslice_from {xs : List AV} {i : Nat} : aslice xs (some (i : Int)) none = xs.drop i := by
  simp only [aslice, Option.elim, clip_nat]
  by_cases h : i < xs.length
  · rw [Nat.min_eq_left (Nat.le_of_lt h), List.take_of_length_le (by simp)]
  · rw [Nat.min_eq_right (by omega), List.drop_length, List.drop_eq_nil_of_le (by omega)]; simp
theorem aslice_ints {xs : List Int} {lo hi : Option Int} : ∃ ys : List Int, aslice (xs.map .int) lo hi = ys.map .int ∧ ys.length ≤ xs.length := by
  refine ⟨(xs.drop (lo.elim 0 (clipAt xs.length))).take (hi.elim xs.length (clipAt xs.length) - lo.elim 0 (clipAt xs.length)), ?_, ?_⟩
  · simp [aslice, List.map_take, List.map_drop]
  · simp; omega

theorem alen_lst {H : AH} {a : Addr} {xs : List AV} (h : H a = some (.lst xs)) : alen H (.ref a) = some xs.length := by simp [alen, h]
section
variable {c : Cx} {A : Around} {env : Env} {m : LM} {H : AH} {Q : AV → AH → Prop} {K : Frag} {a : Ads} {ls gs : List Str}

theorem sok_step {st : Stmt} {rest : List Stmt} {Q : AFl → LM → AH → Prop} (R : LM → AH → Prop) (h1 : SOk c A env (exec st env) m H fun fl m1 H1 => fl = .next ∧ R m1 H1) (h2 : ∀ m1 H1, R m1 H1 → SOk c A env (execs rest env) m1 H1 Q) : SOk c A env (execs (st :: rest) env) m H Q :=
  sok_cons (h1.mono fun fl m1 H1 ⟨e, r⟩ => by subst e; exact h2 m1 H1 r)

theorem swaps_comp {elt : Expr} {gens : List Comprehension} {scope : Scope} {pos py : Pos} {y : Str} {line : Nat} (hk : env.scope.kind = .function) (hy : env.kindOf y = some .local) (hl : (py.line == pos.line) = true := by rfl) (hn : (scope.names.any fun (n, k) => n == y && (k == .local || k == .cell)) = false := by decide) :
    swapsWith (.ListComp elt gens scope pos) (some (.Name y py)) line env = pure true := by
  show pure (env.blockKind == .function && env.kindOf y == some .local && py.line == pos.line && !(scope.names.any fun (n, k) => n == y && (k == .local || k == .cell))) = _
  rw [hn, hl, hy]
  have : env.blockKind = .function := by unfold Env.blockKind; rw [hk]; rfl
  rw [this]; rfl

theorem clos0 {scope : Scope} {x : Str} (hc : closureFor scope env = pure []) (E : env.cells = []) (h1 : ∀ y ∈ scope.names, y.2 ≠ .cell := by decide) (h2 : scope.kind = .function := by rfl) (h3 : ∀ y ∈ scope.names, y.2 = .local → scope.names.lookup y.1 = some .local := by decide) (h4 : scope.names.lookup x = some .local := by rfl) : Clos env scope [] x :=
  ⟨hc, h1, h2, h3, h4, fun _ _ e => by simp at e, fun _ _ e => by simp at e, rfl, fun y cc e => by rw [E] at e; simp at e⟩

theorem sc_lLay : scOk mLLay.sc ["keys", "slip", "kids", "depth", "values", "made", "ints", "facts", "seq", "j"] ["Node", "list", "len", "range"] = true := by decide +kernel

theorem lay_ok {k : Nat} {ka kl : Addr} {sl dep : Int} {ks : List Int} {lr : List LR} (P : Prog c K a) (hA : AOk k A) (hk : k < 60) (hK : H ka = some (.lst (ks.map .int))) (hL : H kl = some (.lst (lr.map lAV))) (hlr : ∀ p ∈ lr, Laid a H (dep + 1) p) (hsz : 2 * ks.length + wtL (lr.map (·.1)) + 3 < 2 ^ 20)
    (h : ∀ H' p vs, Le H H' → Laid a H' dep p → p.1 = .node ks vs (lr.map (·.1)) → vs.length ≤ ks.length + 1 → Q (lAV p) H') :
    CodeOk c A (.ref a.lLay) [] [.ref ka, .int sl, .ref kl, .int dep] H Q := by
  refine (call_fn (ps := ["keys", "slip", "kids", "depth"]) (fvs := []) P.x P.nolimit P.lLay (takes_of sc_lLay (by decide) (by decide) (fun _ _ _ _ _ _ _ => len4 fun _ _ _ _ => rfl)) (by have := hA.d; simp [recursionLimit]; omega) rfl (fun h => by simp [VRs, VR]) fun L q cd => ?_)
  have E := env0 sc_lLay L a.lLay q cd
  have hA' := hA.deeper (fenv mLLay.sc L a.lLay q cd)
  generalize A.deeper (fenv mLLay.sc L a.lLay q cd) = A' at hA' ⊢
  generalize fenv mLLay.sc L a.lLay q cd = env at E ⊢
  have gl := E.len_ P
  have gr := E.range_ P
  have gli := E.list_ P
  have gN : GName c env "Node" (.ref a.node) := E.gn P (by repeat (first | exact List.Mem.head _ | apply List.Mem.tail)) (by simp)
  have hlrl : lr.length ≤ wtL (lr.map (·.1)) := by simpa using wtL_ge (lr.map (·.1))
  -- values
  let RR1 : LM → AH → Prop := fun m1 H1 => C6 (Le H H1) (m1 "keys" = some (.ref ka)) (m1 "slip" = some (.int sl)) (m1 "kids" = some (.ref kl)) (m1 "depth" = some (.int dep)) (∃ (rv : Addr) (vs : List Int), C3 (m1 "values" = some (.ref rv)) (H1 rv = some (.lst (vs.map .int))) (vs.length = ks.length))
  refine sok_step RR1
    (sok_assign_comp (cl := []) hA'.h (clos0 rfl E.c) (eok_name (v := .ref ka) rfl ⟨ks.map .int, (fun _ => true), (fun z => match z with | .int k => .int (7 - k) | z => z), by simp [iterItems, hK], by simp [sizeLine]; omega, fun C D zs y hD hy => tests_nil ⟨rfl, rfl⟩, fun C D zs y hD hy _ => ?_, fun D hD => ⟨rfl, le_upd hD, rfl, rfl, rfl, rfl, D, ks.map (7 - ·), rfl, ?_, by simp⟩⟩ E.k) (swaps_comp E.k (E.l _ (by simp))) (E.st (by decide)) E.k) ?_
  · obtain ⟨k0, _, rfl⟩ := List.mem_map.mp hy
    exact eok_binop (eok_int (eok_name (v := .int k0) (by simp [updM]) (bin_sub ⟨rfl, rfl⟩) rfl))
  · rw [upd_self, filter_all, List.map_map, List.map_map]; rfl
  rintro m1 H1 ⟨le1, mk1, ms1, mkl1, md1, rv, vs, mv1, hv1, hvl⟩
  clear RR1
  -- slips
  let RR2 : LM → AH → Prop := fun m2 H2 => C6 (Le H H2) (m2 "keys" = some (.ref ka)) (m2 "slip" = some (.int sl)) (m2 "kids" = some (.ref kl)) (m2 "depth" = some (.int dep)) (∃ (rv : Addr) (vs : List Int), C3 (m2 "values" = some (.ref rv)) (H2 rv = some (.lst (vs.map .int))) (vs.length ≤ ks.length + 1))
  refine sok_step RR2
    (sok_if_eq (bv := sl == 1) (tok_cmp (eok_name ms1 (eok_int (cmp_eq ⟨_, rfl, rfl, rfl⟩)) E.k)) (fun _ => sok_cons (sok_assign (eok_binop (eok_name mv1 (eok_list (esok_cons (eok_int (esok_nil ⟨Nat.le_of_ble_eq_true rfl, fun r hr => bin_add_list (le_upd hr _ _ hv1) (upd_self _ _ _) (by simp [sizeLine]; omega) fun r2 hr2 => sok_nil ⟨rfl, (le1.trans (le_upd hr)).trans (le_upd hr2), mk1, ms1, mkl1, md1, r2, vs ++ [5], rfl, ?_, by simp; omega⟩⟩)))) E.k)) (E.st (by decide)) E.k))
      (fun _ => sok_nil ⟨rfl, le1, mk1, ms1, mkl1, md1, rv, vs, mv1, hv1, by omega⟩)) ?_
  · rw [upd_self]; simp
  clear mk1 ms1 mkl1 md1 mv1 hv1 hvl le1 m1 H1 rv vs
  rintro m1 H1 ⟨le1, mk1, ms1, mkl1, md1, rv, vs, mv1, hv1, hvl⟩
  clear RR2
  let RR3 : LM → AH → Prop := fun m2 H2 => C5 (Le H H2) (m2 "keys" = some (.ref ka)) (m2 "kids" = some (.ref kl)) (m2 "depth" = some (.int dep)) (∃ (rv : Addr) (vs : List Int), C3 (m2 "values" = some (.ref rv)) (H2 rv = some (.lst (vs.map .int))) (vs.length ≤ ks.length + 1))
  refine sok_step RR3
    (sok_if_eq (bv := sl == 2) (tok_cmp (eok_name ms1 (eok_int (cmp_eq ⟨_, rfl, rfl, rfl⟩)) E.k)) (fun _ => sok_cons (sok_assign (eok_slice (eok_name mv1 (part_some (eok_int ⟨_, rfl, part_none ⟨rv, _, rfl, hv1, by simp [sizeLine]; omega, fun r hr => ?_⟩⟩)) E.k)) (E.st (by decide)) E.k))
      (fun _ => sok_nil ⟨rfl, le1, mk1, mkl1, md1, rv, vs, mv1, hv1, by omega⟩)) ?_
  · obtain ⟨ys, hys, hyl⟩ := aslice_ints (xs := vs) (lo := some 1) (hi := none)
    rw [hys]
    exact sok_nil ⟨rfl, le1.trans (le_upd hr), mk1, mkl1, md1, r, ys, rfl, upd_self _ _ _, by omega⟩
  clear mk1 ms1 mkl1 md1 mv1 hv1 hvl le1 m1 H1 rv vs
  rintro m1 H1 ⟨le1, mk1, mkl1, md1, rv, vs, mv1, hv1, hvl⟩
  clear RR3
  -- the node
  let RR4 : LM → AH → Prop := fun m2 H2 => C3 (Le H1 H2) ((∀ z : Str, z ≠ "made" → m2 z = m1 z)) (∃ x, m2 "made" = some (.ref x) ∧ TreeAt a H2 (.node ks vs (lr.map (·.1))) x)
  refine sok_step RR4
    (sok_assign (eok_make P.x gN P.nodeMakes.1 P.nInit.find P.nInit.typ P.nodeMakes.2 (esok_cons (eok_callT gli (esok_cons (eok_name mk1 (esok_nil (cok_list (le1 _ _ hK) (by simp [sizeLine]; omega) fun r1 hr1 =>
      esok_cons (eok_callT gli (esok_cons (eok_name mv1 (esok_nil (cok_list (le_upd hr1 _ _ hv1) (by simp [sizeLine]; omega) fun r2 hr2 =>
        esok_cons (eok_comp (cl := []) hA'.h (clos0 rfl E.c) (eok_name mkl1 ⟨lr.map lAV, (fun _ => true), (fun z => match z with | .tup (x :: _) => x | z => z), by simp [iterItems, le_upd hr2 _ _ (le_upd hr1 _ _ (le1 _ _ hL))], by simp [sizeLine]; omega, fun C D zs y hD hy => tests_nil ⟨rfl, rfl⟩, fun C D zs y hD hy _ => ?_, fun r3 hr3 => esok_nil fun x xd hx hxd hxx rvs => ?_⟩ E.k)))) E.k))))) E.k))))) (E.st (by decide)) E.k) ?_
  · obtain ⟨p, _, rfl⟩ := List.mem_map.mp hy
    exact eok_item_tup (eok_name (v := lAV p) (by simp [updM]) (eok_int ⟨_, _, _, rfl, rfl, by decide, by decide, rfl, rfl, rfl⟩) rfl)
  · have l3 : Le H1 (upd (upd (upd H1 r1 (.lst (ks.map .int))) r2 (.lst (vs.map .int))) r3 (.lst (((lr.map lAV).filter fun _ => true).map fun z => match z with | .tup (x :: _) => x | z => z))) := ((le_upd hr1).trans (le_upd hr2)).trans (le_upd hr3)
    have g1 := le_upd (o := .lst (((lr.map lAV).filter fun _ => true).map fun z => match z with | .tup (x :: _) => x | z => z)) hr3 _ _ (le_upd (o := .lst (vs.map .int)) hr2 _ _ (upd_self H1 r1 (.lst (ks.map .int))))
    have g2 := le_upd (o := .lst (((lr.map lAV).filter fun _ => true).map fun z => match z with | .tup (x :: _) => x | z => z)) hr3 _ _ (upd_self (upd H1 r1 (.lst (ks.map .int))) r2 (.lst (vs.map .int)))
    have g3 := upd_self (upd (upd H1 r1 (.lst (ks.map .int))) r2 (.lst (vs.map .int))) r3 (.lst (((lr.map lAV).filter fun _ => true).map fun z => match z with | .tup (x :: _) => x | z => z))
    generalize upd (upd (upd H1 r1 (.lst (ks.map .int))) r2 (.lst (vs.map .int))) r3 (.lst (((lr.map lAV).filter fun _ => true).map fun z => match z with | .tup (x :: _) => x | z => z)) = H3 at l3 g1 g2 g3 hx hxd ⊢
    refine nInit_ok P (hA'.make _ _) (by omega) (d := xd) (upd_self _ _ _) (by rw [upd_ne hxx.symm, upd_self]) ⟨rfl, ?_⟩
    have l4 : Le H3 (upd (upd (upd H3 xd (.dict [])) x (.inst a.node xd)) xd (.dict (fld r1 r2 r3))) := fun z o e => by
      rw [upd_ne (by rintro rfl; rw [hxd] at e; cases e), upd_ne (by rintro rfl; rw [hx] at e; cases e), upd_ne (by rintro rfl; rw [hxd] at e; cases e)]; exact e
    refine ⟨rfl, l3.trans l4, fun z hz => by simp only [updM]; rw [if_neg hz], x, rfl, ?_⟩
    simp only [TreeAt]
    refine ⟨xd, r1, r2, r3, lr.map (·.2.1), by rw [upd_ne hxx, upd_self], upd_self _ _ _, l4 _ _ g1, l4 _ _ g2, ?_, ?_⟩
    · rw [l4 _ _ g3, filter_all, List.map_map, List.map_map]; rfl
    · exact (treesAt_of hlr).mono ((le1.trans l3).trans l4)
  rintro m2 H2 ⟨le2, hm2, x, mx2, hx2⟩
  clear RR4
  have mk2 := (hm2 "keys" (by decide)).trans mk1
  have mkl2 := (hm2 "kids" (by decide)).trans mkl1
  have md2 := (hm2 "depth" (by decide)).trans md1
  have mv2 := (hm2 "values" (by decide)).trans mv1
  have hv2 := le2 _ _ hv1
  have hK2 := le2 _ _ (le1 _ _ hK)
  have hL2 := le2 _ _ (le1 _ _ hL)
  have leH2 := le1.trans le2
  clear hm2 mk1 mkl1 md1 mv1 hv1 le1 le2 m1 H1
  -- ints
  let RR5 : LM → AH → Prop := fun m3 H3 => C3 (Le H2 H3) ((∀ z : Str, z ≠ "ints" → m3 z = m2 z)) (∃ ri, m3 "ints" = some (.ref ri) ∧ H3 ri = some (.lst (((ks.length : Int) :: (ks ++ (vs ++ [(lr.length : Int)]))).map .int)))
  refine sok_step RR5
    (sok_assign (eok_binop (eok_binop (eok_binop (eok_list (esok_cons (eok_callB gl (esok_cons (eok_name mk2 ?_ E.k)))))))) (E.st (by decide)) E.k) ?_
  · refine esok_nil (cok_len (n := ks.length) (by simp [alen, hK2]) (by omega) (esok_nil ⟨Nat.le_of_ble_eq_true rfl, fun r1 hr1 => ?_⟩))
    refine eok_name mk2 (bin_add_list (upd_self _ _ _) (le_upd hr1 _ _ hK2) (by simp [sizeLine]; omega) fun r2 hr2 => ?_) E.k
    refine eok_name mv2 (bin_add_list (upd_self _ _ _) (le_upd hr2 _ _ (le_upd hr1 _ _ hv2)) (by simp [sizeLine]; omega) fun r3 hr3 => ?_) E.k
    refine eok_list (esok_cons (eok_callB gl (esok_cons (eok_name mkl2 ?_ E.k))))
    refine esok_nil (cok_len (n := lr.length) (by rw [alen_lst (le_upd hr3 _ _ (le_upd hr2 _ _ (le_upd hr1 _ _ hL2)))]; simp) (by omega) (esok_nil ⟨Nat.le_of_ble_eq_true rfl, fun r4 hr4 => ?_⟩))
    refine bin_add_list (le_upd hr4 _ _ (upd_self _ _ _)) (upd_self _ _ _) (by simp [sizeLine]; omega) fun r5 hr5 => ?_
    refine ⟨rfl, (((le_upd hr1).trans (le_upd hr2)).trans (le_upd hr3)).trans ((le_upd hr4).trans (le_upd hr5)), fun z hz => by simp only [updM]; rw [if_neg hz], r5, rfl, ?_⟩
    rw [upd_self]; simp
  rintro m3 H3 ⟨le3, hm3, ri, mi3, hi3⟩
  clear RR5
  have mk3 := (hm3 "keys" (by decide)).trans mk2
  have mkl3 := (hm3 "kids" (by decide)).trans mkl2
  have md3 := (hm3 "depth" (by decide)).trans md2
  have mv3 := (hm3 "values" (by decide)).trans mv2
  have mx3 := (hm3 "made" (by decide)).trans mx2
  have hv3 := le3 _ _ hv2
  have hK3 := le3 _ _ hK2
  have hL3 := le3 _ _ hL2
  have hx3 := hx2.mono le3
  have leH3 := leH2.trans le3
  clear hm3 mk2 mkl2 md2 mv2 mx2 hv2 hK2 hL2 hx2 leH2 le3 m2 H2
  -- facts
  let RR6 : LM → AH → Prop := fun m4 H4 => C3 (Le H3 H4) ((∀ z : Str, z ≠ "facts" → m4 z = m3 z)) (∃ rf, m4 "facts" = some (.ref rf) ∧ H4 rf = some (.lst ([((ks.length, vs.length, lr.length, dep) : Fact)].map fAV)))
  refine sok_step RR6
    (sok_assign (eok_list (esok_cons (eok_tuple (esok_cons (eok_callB gl (esok_cons (eok_name mk3 ?_ E.k))))))) (E.st (by decide)) E.k) ?_
  · refine esok_nil (cok_len (n := ks.length) (by simp [alen, hK3]) (by omega) ?_)
    refine esok_cons (eok_callB gl (esok_cons (eok_name mv3 ?_ E.k)))
    refine esok_nil (cok_len (n := vs.length) (by simp [alen, hv3]) (by omega) ?_)
    refine esok_cons (eok_callB gl (esok_cons (eok_name mkl3 ?_ E.k)))
    refine esok_nil (cok_len (n := lr.length) (by simp [alen, hL3]) (by omega) ?_)
    refine esok_cons (eok_name md3 (esok_nil ⟨Nat.le_of_ble_eq_true rfl, esok_nil ⟨Nat.le_of_ble_eq_true rfl, fun r1 hr1 => ?_⟩⟩) E.k)
    exact ⟨rfl, le_upd hr1, fun z hz => by simp only [updM]; rw [if_neg hz], r1, rfl, upd_self _ _ _⟩
  rintro m4 H4 ⟨le4, hm4, rf, mf4, hf4⟩
  clear RR6
  have mk4 := (hm4 "keys" (by decide)).trans mk3
  have mkl4 := (hm4 "kids" (by decide)).trans mkl3
  have mx4 := (hm4 "made" (by decide)).trans mx3
  have mi4 := (hm4 "ints" (by decide)).trans mi3
  have hi4 := le4 _ _ hi3
  have hx4 := hx3.mono le4
  have leH4 := leH3.trans le4
  clear hm4 mk3 mkl3 md3 mv3 mx3 mi3 hv3 hK3 hL3 hx3 hi3 leH3 le4 m3 H3
  -- seq
  let RR7 : LM → AH → Prop := fun m5 H5 => C3 (Le H4 H5) ((∀ z : Str, z ≠ "seq" → m5 z = m4 z)) (∃ rs, m5 "seq" = some (.ref rs) ∧ H5 rs = some (.lst []))
  refine sok_step RR7
    (sok_assign (eok_list (esok_nil ⟨Nat.le_of_ble_eq_true rfl, fun r1 hr1 => ⟨rfl, le_upd hr1, fun z hz => by simp only [updM]; rw [if_neg hz], r1, rfl, upd_self _ _ _⟩⟩)) (E.st (by decide)) E.k) ?_
  rintro m5 H5 ⟨le5, hm5, rs, mss5, hs5⟩
  clear RR7
  have mk5 := (hm5 "keys" (by decide)).trans mk4
  have mkl5 := (hm5 "kids" (by decide)).trans mkl4
  have mx5 := (hm5 "made" (by decide)).trans mx4
  have mi5 := (hm5 "ints" (by decide)).trans mi4
  have mf5 := (hm5 "facts" (by decide)).trans mf4
  have hi5 := le5 _ _ hi4
  have hf5 := le5 _ _ hf4
  have hx5 := hx4.mono le5
  have leH5 := leH4.trans le5
  clear hm5 mk4 mkl4 mx4 mi4 mf4 hx4 hi4 hf4 leH4 le5 m4 H4
  -- the loop
  let Ts : List Tree := lr.map (·.1)
  have hTl : Ts.length = lr.length := by simp [Ts]
  let RR8 : LM → AH → Prop := fun m6 H6 => C6 (Le H H6) (m6 "keys" = some (.ref ka)) (m6 "kids" = some (.ref kl)) (m6 "made" = some (.ref x)) (TreeAt a H6 (.node ks vs Ts) x) (∃ ri rf rs, C6 (m6 "ints" = some (.ref ri)) (m6 "facts" = some (.ref rf)) (m6 "seq" = some (.ref rs)) (H6 ri = some (.lst ((flatT (.node ks vs Ts)).map .int))) (H6 rf = some (.lst ((factsT dep (.node ks vs Ts)).map fAV))) (H6 rs = some (.lst ((seqP ks Ts).map .int))))
  refine sok_step RR8
    (sok_for hA'.h (eok_callT gr (esok_cons (eok_callB gl (esok_cons (eok_name mkl5 ?_ E.k))))) (E.st (by decide)) E.k) ?_
  · let JJ1 : Nat → LM → AH → Prop := fun j m6 H6 => C6 (Le H H6) (m6 "keys" = some (.ref ka)) (m6 "kids" = some (.ref kl)) (m6 "made" = some (.ref x)) (TreeAt a H6 (.node ks vs Ts) x) (∃ ri rf rs, C6 (m6 "ints" = some (.ref ri)) (m6 "facts" = some (.ref rf)) (m6 "seq" = some (.ref rs)) (H6 ri = some (.lst (((ks.length : Int) :: (ks ++ (vs ++ ((lr.length : Int) :: flatTL (Ts.take j))))).map .int))) (H6 rf = some (.lst ((((ks.length, vs.length, lr.length, dep) : Fact) :: factsTL (dep + 1) (Ts.take j)).map fAV))) (H6 rs = some (.lst ((seqP ks (Ts.take j)).map .int))))
    refine esok_nil (cok_len (n := lr.length) (by simp [alen, leH5 _ _ hL]) (by omega) (esok_nil (cok_range1 (by omega) (by omega) ⟨_, rfl, JJ1, ⟨leH5, mk5, mkl5, mx5, hx5, ri, rf, rs, mi5, mf5, mss5, by simpa [flatTL] using hi5, by simpa [factsTL] using hf5, by simpa [seqP] using hs5⟩, ?_, ?_⟩)))
    · rintro j m6 H6 jv ⟨le6, mk6, mkl6, mx6, hx6, ri, rf, rs, mi6, mf6, ms6, hi6, hf6, hs6⟩ hy
      obtain ⟨hj, rfl⟩ := rng_get hy
      rw [Int.toNat_natCast] at hj
      refine ⟨rfl, ?_⟩
      have hp := hlr lr[j] (List.getElem_mem hj)
      have hTj : Ts.take (j + 1) = Ts.take j ++ [lr[j].1] := by rw [take_snoc Ts (by omega)]; simp [Ts]
      have w1 := wtL_take Ts (j + 1)
      rw [hTj, wtL_append] at w1
      simp only [wtL, Nat.add_zero] at w1
      have w2 := flatTL_length (Ts.take j)
      have w3 := flatT_length lr[j].1
      have w4 := factsTL_length (Ts.take j) (dep + 1)
      have w5 := nodesL_wtL (Ts.take j)
      have w6 := factsT_length lr[j].1 (dep + 1)
      have w7 := nodes_wt lr[j].1
      have w8 := seqP_le (Ts.take j) ks
      have w9 := seqT_length lr[j].1
      have w10 := cnt_wt lr[j].1
      have hsz' : 2 * ks.length + wtL Ts + 3 < 2 ^ 20 := hsz
      have kj : ∀ {Q' : AV → AH → Prop} {p1 p2 p3 p4 p5 : Pos} {kk i : Nat} {v : AV} {H' : AH} {m' : LM}, Le H H' → m' "kids" = some (.ref kl) → m' "j" = some (.int j) → [AV.ref lr[j].2.1, .ref lr[j].2.2.1, .ref lr[j].2.2.2.1, .ref lr[j].2.2.2.2][i]? = some v → Q' v H' → EOk c A' env (.Subscript (.Subscript (.Name "kids" p1) (.Name "j" p2) p3) (.Constant (.int (i : Int)) kk p4) p5) m' H' Q' := by
        intro Q' p1 p2 p3 p4 p5 kk i v H' m' hle hm hmj hv hq
        have hi4 : i < 4 := by have := (List.getElem?_eq_some_iff.mp hv).1; simpa using this
        exact eok_item_tup (eok_item_lst (eok_name hm (eok_name hmj ⟨kl, _, _, lAV lr[j], rfl, rfl, hle _ _ hL, by omega, by omega, by simp [hj], eok_int ⟨_, _, v, rfl, rfl, by omega, by omega, by simpa using hv, hq⟩⟩ E.k) E.k))
      let RR9 : LM → AH → Prop := fun m7 H7 => C3 (Le H6 H7) ((∀ z : Str, z ≠ "ints" → m7 z = updM m6 "j" (.int j) z)) (∃ ri, m7 "ints" = some (.ref ri) ∧ H7 ri = some (.lst (((ks.length : Int) :: (ks ++ (vs ++ ((lr.length : Int) :: flatTL (Ts.take (j + 1)))))).map .int)))
      refine sok_step RR9
        (sok_assign (eok_binop (eok_name (v := .ref ri) (by simp only [updM]; rw [if_neg (by decide)]; exact mi6) (kj (i := 1) le6 (by simp only [updM]; rw [if_neg (by decide)]; exact mkl6) (by simp [updM]) rfl (bin_add_list hi6 (le6 _ _ hp.fi) (by simp [sizeLine]; omega) fun r hr => ⟨rfl, le_upd hr, fun z hz => by simp only [updM]; rw [if_neg hz], r, rfl, ?_⟩)) E.k)) (E.st (by decide)) E.k) ?_
      · rw [upd_self, hTj, flatTL_append]; simp [flatTL]
      rintro m7 H7 ⟨le7, hm7, ri', mi7, hi7⟩
      clear RR9
      let RR10 : LM → AH → Prop := fun m8 H8 => C3 (Le H7 H8) ((∀ z : Str, z ≠ "facts" → m8 z = m7 z)) (∃ rf, m8 "facts" = some (.ref rf) ∧ H8 rf = some (.lst ((((ks.length, vs.length, lr.length, dep) : Fact) :: factsTL (dep + 1) (Ts.take (j + 1))).map fAV)))
      refine sok_step RR10
        (sok_assign (eok_binop (eok_name (v := .ref rf) ((hm7 _ (by decide)).trans (by simp only [updM]; rw [if_neg (by decide)]; exact mf6)) (kj (i := 2) (le6.trans le7) ((hm7 _ (by decide)).trans (by simp only [updM]; rw [if_neg (by decide)]; exact mkl6)) ((hm7 _ (by decide)).trans (by simp [updM])) rfl (bin_add_list (le7 _ _ hf6) (le7 _ _ (le6 _ _ hp.ff)) (by simp [sizeLine]; omega) fun r hr => ⟨rfl, le_upd hr, fun z hz => by simp only [updM]; rw [if_neg hz], r, rfl, ?_⟩)) E.k)) (E.st (by decide)) E.k) ?_
      · rw [upd_self, hTj, factsTL_append]; simp [factsTL]
      rintro m8 H8 ⟨le8, hm8, rf', mf8, hf8⟩
      clear RR10
      have mj8 : m8 "j" = some (.int j) := (hm8 _ (by decide)).trans ((hm7 _ (by decide)).trans (by simp [updM]))
      have mk8 : m8 "keys" = some (.ref ka) := (hm8 _ (by decide)).trans ((hm7 _ (by decide)).trans (by simp only [updM]; rw [if_neg (by decide)]; exact mk6))
      have mkl8 : m8 "kids" = some (.ref kl) := (hm8 _ (by decide)).trans ((hm7 _ (by decide)).trans (by simp only [updM]; rw [if_neg (by decide)]; exact mkl6))
      have mx8 : m8 "made" = some (.ref x) := (hm8 _ (by decide)).trans ((hm7 _ (by decide)).trans (by simp only [updM]; rw [if_neg (by decide)]; exact mx6))
      have ms8 : m8 "seq" = some (.ref rs) := (hm8 _ (by decide)).trans ((hm7 _ (by decide)).trans (by simp only [updM]; rw [if_neg (by decide)]; exact ms6))
      have mi8 : m8 "ints" = some (.ref ri') := (hm8 _ (by decide)).trans mi7
      have le68 := le7.trans le8
      have le08 := le6.trans le68
      have hlk : ((ks.map AV.int).drop j |>.take 1).length ≤ 1 := by simp; omega
      refine sok_cons (sok_assign (eok_binop (eok_binop (eok_name ms8 (kj (i := 3) le08 mkl8 mj8 rfl (bin_add_list (le68 _ _ hs6) (le08 _ _ hp.fs) (by simp [sizeLine]; omega) fun r hr => ?_)) E.k))) (E.st (by decide)) E.k)
      refine eok_slice (eok_name mk8 (part_some (eok_name mj8 ⟨_, rfl, part_some (eok_binop (eok_name mj8 (eok_int (bin_add ⟨_, rfl, ka, _, rfl, le_upd hr _ _ (le08 _ _ hK), by simp [sizeLine]; omega, fun r2 hr2 => ?_⟩)) E.k))⟩ E.k)) E.k)
      rw [aslice_one]
      refine bin_add_list (le_upd hr2 _ _ (upd_self _ _ _)) (upd_self _ _ _) (by simp [sizeLine]; omega) fun r3 hr3 => ?_
      have le9 := ((le_upd hr).trans (le_upd hr2)).trans (le_upd (o := .lst ((seqP ks (Ts.take j)).map AV.int ++ (seqT lr[j].1).map AV.int ++ ((ks.map AV.int).drop j).take 1)) hr3)
      refine sok_nil ⟨le08.trans le9, mk8, mkl8, mx8, hx6.mono (le68.trans le9), ri', rf', r3, mi8, mf8, rfl, le9 _ _ (le8 _ _ hi7), le9 _ _ hf8, ?_⟩
      rw [upd_self, hTj, seqP_snoc]
      have : (Ts.take j).length = j := by rw [List.length_take]; omega
      simp [this, List.map_take, List.map_drop]
    · rintro m6 H6 ⟨le6, mk6, mkl6, mx6, hx6, ri, rf, rs, mi6, mf6, ms6, hi6, hf6, hs6⟩
      have : Ts.take ((List.range (lr.length : Int).toNat).map fun i : Nat => AV.int (0 + (i : Int) * 1)).length = Ts := List.take_of_length_le (by simp [hTl])
      rw [this] at hi6 hf6 hs6
      exact ⟨rfl, rfl, le6, mk6, mkl6, mx6, hx6, ri, rf, rs, mi6, mf6, ms6, by simpa [flatT, hTl] using hi6, by simpa [factsT, hTl] using hf6, hs6⟩
  rintro m6 H6 ⟨le6, mk6, mkl6, mx6, hx6, ri, rf, rs, mi6, mf6, ms6, hi6, hf6, hs6⟩
  clear RR8
  have w8 := seqP_le Ts ks
  have hsz' : 2 * ks.length + wtL Ts + 3 < 2 ^ 20 := hsz
  refine sok_cons (sok_return (eok_tuple (esok_cons (eok_name mx6 (esok_cons (eok_name mi6 (esok_cons (eok_name mf6 (esok_cons (eok_binop (eok_name ms6 ?_ E.k))) E.k)) E.k)) E.k))))
  refine eok_slice (eok_name mk6 (part_some (eok_callB gl (esok_cons (eok_name mkl6 ?_ E.k)))) E.k)
  refine esok_nil (cok_len (n := lr.length) (by simp [alen, le6 _ _ hL]) (by omega) ⟨_, rfl, part_none ⟨ka, _, rfl, le6 _ _ hK, by simp [sizeLine]; omega, fun r hr => ?_⟩⟩)
  rw [aslice_from]
  refine bin_add_list (le_upd hr _ _ hs6) (upd_self _ _ _) (by simp [sizeLine]; omega) fun r2 hr2 => esok_nil ⟨Nat.le_of_ble_eq_true rfl, ?_⟩
  have le7 := (le_upd hr).trans (le_upd (o := .lst ((seqP ks Ts).map .int ++ (ks.map AV.int).drop lr.length)) hr2)
  refine h _ (.node ks vs Ts, x, ri, rf, r2) vs (le6.trans le7) ⟨hx6.mono le7, le7 _ _ hi6, le7 _ _ hf6, ?_⟩ rfl hvl
  show upd _ _ _ _ = _
  rw [upd_self, seqT, seqP_K, hTl]
  simp [List.map_drop]
end
end Mine
namespace Mine
open PySem PySem.W PySem.Calls PyProof.Rows

theorem aslice_to {xs : List AV} {j : Nat} : aslice xs none (some (j : Int)) = xs.take j := by
  simp only [aslice, Option.elim, clip_nat, List.drop_zero, Nat.sub_zero]
  by_cases h : j ≤ xs.length
  · rw [Nat.min_eq_left h]
  · rw [Nat.min_eq_right (by omega), List.take_of_length_le (Nat.le_refl _), List.take_of_length_le (by omega)]
theorem le_set {H H2 : AH} {r : Addr} {o : AO} (h : Le H H2) (hr : H r = none) : Le H (upd H2 r o) := fun x ob e => by
  rw [upd_ne (by rintro rfl; rw [hr] at e; cases e)]; exact h x ob e

structure SzOk (kind : Int) (total : Nat) (S : List Int) : Prop where
  len : S.length = total
  lo : ∀ s ∈ S, 0 ≤ s
  hi : ∀ s ∈ S, s ≤ 6
  pos : kind ≠ 2 → ∀ s ∈ S, 1 ≤ s

section
variable {c : Cx} {A : Around} {env : Env} {m : LM} {H : AH} {Q : AV → AH → Prop} {K : Frag} {a : Ads} {ls gs : List Str}

theorem sc_lSizes : scOk mLSizes.sc ["t", "total", "cells", "kind", "place", "sizes", "cell"] [] = true := by decide +kernel

theorem sizes_ok {k : Nat} {cl : Addr} {t kind : Int} {total place : Nat} {cs : List Int} (P : Prog c K a) (hA : AOk k A) (hk : k < 60) (hC : H cl = some (.lst (cs.map .int))) (hc6 : cs.length = 6) (ht : t = 2 ∨ t = 3) (htot : total ≤ 6) (hpl : place < total)
    (h : ∀ H' r S, Le H H' → H' r = some (.lst (S.map .int)) → SzOk kind total S → Q (.ref r) H') :
    CodeOk c A (.ref a.lSizes) [] [.int t, .int total, .ref cl, .int kind, .int place] H Q := by
  refine (call_fn (ps := ["t", "total", "cells", "kind", "place"]) (fvs := []) P.x P.nolimit P.lSizes (takes_of sc_lSizes (by decide) (by decide) (fun _ _ _ _ _ _ _ => len5 fun _ _ _ _ _ => rfl)) (by have := hA.d; simp [recursionLimit]; omega) rfl (fun h => by simp [VRs]) fun L q cd => ?_)
  have E := env0 sc_lSizes L a.lSizes q cd
  have hA' := hA.deeper (fenv mLSizes.sc L a.lSizes q cd)
  generalize A.deeper (fenv mLSizes.sc L a.lSizes q cd) = A' at hA' ⊢
  generalize fenv mLSizes.sc L a.lSizes q cd = env at E ⊢
  refine sok_cons (sok_assign (eok_list (esok_nil ⟨Nat.le_of_ble_eq_true rfl, fun r0 hr0 => ?_⟩)) (E.st (by decide)) E.k)
  have hcr : cl ≠ r0 := by rintro rfl; rw [hr0] at hC; cases hC
  refine sok_cons (sok_pushes (xs := cs.map .int) (v := .ref cl) (st := r0) (g := fun z => match z with | .int x => .int (t - 1 + x.fmod (t + 1)) | z => z) hA'.h E (by decide) (by decide) rfl (upd_self _ _ _) (by simp [sizeLine]; omega) (eok_name (v := .ref cl) rfl ⟨rfl, rfl⟩ E.k) (fun zs => by simp only [iterItems, upd_upd, upd_ne hcr, hC]) (by simp only [iterItems, upd_ne hcr, hC])
    (fun m2 zs y hm2 hy => ?_) fun m2 hm2 => ?_)
  · obtain ⟨x, _, rfl⟩ := List.mem_map.mp hy
    have mt : updM m2 "cell" (.int x) "t" = some (.int t) := by simp only [updM]; rw [if_neg (by decide)]; exact hm2 _ (by decide)
    exact eok_binop (eok_binop (eok_name mt (eok_int (bin_sub (eok_binop (eok_name (v := .int x) (by simp [updM]) (eok_binop (eok_name mt (eok_int (bin_add (bin_mod (by omega) (bin_add ⟨rfl, rfl⟩)))) E.k)) E.k)))) E.k))
  rw [upd_upd]
  have mz2 : m2 "sizes" = some (.ref r0) := hm2 _ (by decide)
  have mt2 : m2 "t" = some (.int t) := hm2 _ (by decide)
  have mto2 : m2 "total" = some (.int total) := hm2 _ (by decide)
  have mki2 : m2 "kind" = some (.int kind) := hm2 _ (by decide)
  have mpl2 : m2 "place" = some (.int place) := hm2 _ (by decide)
  have hS0 : ([] ++ (cs.map AV.int).map fun z => match z with | .int x => AV.int (t - 1 + x.fmod (t + 1)) | z => z) = (cs.map fun x => t - 1 + x.fmod (t + 1)).map .int := by
    rw [List.nil_append, List.map_map, List.map_map]; rfl
  rw [hS0]
  have hS1 : ∀ s ∈ cs.map (fun x => t - 1 + x.fmod (t + 1)), 1 ≤ s ∧ s ≤ 6 := fun s hs => by
    obtain ⟨x, _, rfl⟩ := List.mem_map.mp hs
    have h1 := Int.fmod_nonneg_of_pos x (show (0 : Int) < t + 1 by omega)
    have h2 := Int.fmod_lt_of_pos x (show (0 : Int) < t + 1 by omega)
    omega
  have hS2 : (cs.map (fun x => t - 1 + x.fmod (t + 1))).length = 6 := by simp [hc6]
  generalize cs.map (fun x => t - 1 + x.fmod (t + 1)) = S at hS1 hS2
  let RR1 : LM → AH → Prop := fun m3 H3 => C5 (Le H H3) (m3 "t" = some (.int t)) (m3 "kind" = some (.int kind)) (m3 "place" = some (.int place)) (∃ (r : Addr) (S : List Int), C4 (m3 "sizes" = some (.ref r)) (H3 r = some (.lst (S.map .int))) (S.length = total) (∀ s ∈ S, 1 ≤ s ∧ s ≤ 6))
  refine sok_step RR1
    (sok_assign (eok_slice (eok_name mz2 (part_none (part_some (eok_name mto2 ⟨_, rfl, r0, _, rfl, upd_self _ _ _, by simp [sizeLine, hS2], fun r hr => ?_⟩ E.k))) E.k)) (E.st (by decide)) E.k) ?_
  · rw [aslice_to]
    refine ⟨rfl, (le_upd hr0).trans (le_upd hr), mt2, mki2, mpl2, r, S.take total, rfl, ?_, by simp [hS2]; omega, fun s hs => hS1 s (List.mem_of_mem_take hs)⟩
    rw [upd_self, List.map_take]
  clear mz2 mt2 mto2 mki2 mpl2 hm2 hS0 hS1 hS2
  rintro m3 H3 ⟨le3, mt3, mk3, mp3, r, S, mz3, hz3, hlen, hS⟩
  clear RR1
  have part : ∀ {m4 : LM} {H4 : AH} {r : Addr} {S : List Int} {v : Int} {e : Expr} {p1 p2 p3 p4 p5 p6 p7 p8 p9 p10 p11 p12 pp1 pp2 : Pos} {k0 : Nat} {Q' : AV → AH → Prop}, m4 "sizes" = some (.ref r) → m4 "place" = some (.int place) → H4 r = some (.lst (S.map .int)) → S.length = total → (∀ H5, EOk c A' env e m4 H5 fun w H6 => w = .int v ∧ H6 = H5) →
      (hse : starEach [e] env = (false, eval e env) :: starEach [] env) →
      (∀ H5 r5, Le H4 H5 → H5 r5 = some (.lst ((S.take place ++ v :: S.drop (place + 1)).map .int)) → Q' (.ref r5) H5) →
      EOk c A' env (.BinOp (.BinOp (.Subscript (.Name "sizes" p1) (.Slice none (some (.Name "place" p2)) none pp1) p3) .Add (.List [e] p4) p5) .Add (.Subscript (.Name "sizes" p6) (.Slice (some (.BinOp (.Name "place" p7) .Add (.Constant (.int 1) k0 p8) p9)) none none pp2) p10) p11) m4 H4 Q' := by
    intro m4 H4 r S v e p1 p2 p3 p4 p5 p6 p7 p8 p9 p10 p11 p12 pp1 pp2 k0 Q' ms mp hr hl he hse hq
    refine eok_binop (eok_binop (eok_slice (eok_name ms (part_none (part_some (eok_name mp ⟨_, rfl, r, _, rfl, hr, by simp [sizeLine]; omega, fun r1 hr1 => ?_⟩ E.k))) E.k)))
    refine eok_list (esok_cons ((he _).mono fun w H6 e6 => ?_) hse)
    rw [e6.1, e6.2]
    refine esok_nil ⟨Nat.le_of_ble_eq_true rfl, fun r2 hr2 => bin_add_list (le_upd hr2 _ _ (upd_self _ _ _)) (upd_self _ _ _) ?_ fun r3 hr3 => ?_⟩
    · rw [aslice_to]; simp [sizeLine]; omega
    refine eok_slice (eok_name ms (part_some (eok_binop (eok_name mp (eok_int (bin_add ⟨_, rfl, part_none ⟨r, _, rfl, le_upd hr3 _ _ (le_upd hr2 _ _ (le_upd hr1 _ _ hr)), by simp [sizeLine]; omega, fun r4 hr4 => ?_⟩⟩)) E.k))) E.k)
    refine bin_add_list (le_upd hr4 _ _ (upd_self _ _ _)) (upd_self _ _ _) ?_ fun r5 hr5 => ?_
    · rw [show ((place : Int) + 1) = ((place + 1 : Nat) : Int) by omega, aslice_from, aslice_to]; simp [sizeLine]; omega
    · refine hq _ r5 ((((le_upd hr1).trans (le_upd hr2)).trans (le_upd hr3)).trans ((le_upd hr4).trans (le_upd hr5))) ?_
      rw [upd_self, show ((place : Int) + 1) = ((place + 1 : Nat) : Int) by omega, aslice_from, aslice_to]
      simp [List.map_take, List.map_drop]
  have hmix : ∀ {S : List Int} {v : Int}, S.length = total → (S.take place ++ v :: S.drop (place + 1)).length = total := fun {S v} hl => by simp; omega
  have hmem : ∀ {S : List Int} {v s : Int}, s ∈ S.take place ++ v :: S.drop (place + 1) → s ∈ S ∨ s = v := fun {S v s} hs => by
    simp only [List.mem_append, List.mem_cons] at hs
    rcases hs with hs | rfl | hs
    · exact .inl (List.mem_of_mem_take hs)
    · exact .inr rfl
    · exact .inl (List.mem_of_mem_drop hs)
  let RR2 : LM → AH → Prop := fun m4 H4 => C5 (Le H H4) (m4 "t" = some (.int t)) (m4 "kind" = some (.int kind)) (m4 "place" = some (.int place)) (∃ (r : Addr) (S : List Int), C3 (m4 "sizes" = some (.ref r)) (H4 r = some (.lst (S.map .int))) (SzOk kind total S))
  refine sok_step RR2
    (sok_if_eq (bv := kind == 2) (tok_cmp (eok_name mk3 (eok_int (cmp_eq ⟨_, rfl, rfl, rfl⟩)) E.k)) (fun e => sok_cons (sok_assign (part (v := t - 2) (p12 := default) mz3 mp3 hz3 hlen (fun H5 => eok_binop (eok_name mt3 (eok_int (bin_sub ⟨rfl, rfl⟩)) E.k)) rfl fun H5 r5 le5 hr5 => sok_nil ⟨rfl, le3.trans le5, mt3, mk3, mp3, r5, _, rfl, hr5, hmix hlen, fun s hs => ?_, fun s hs => ?_, fun hn => absurd (by simpa using e) hn⟩) (E.st (by decide)) E.k))
      (fun e => sok_nil ⟨rfl, le3, mt3, mk3, mp3, r, S, mz3, hz3, hlen, fun s hs => by have := hS s hs; omega, fun s hs => (hS s hs).2, fun _ s hs => (hS s hs).1⟩)) ?_
  · rcases hmem hs with hs | rfl
    · have := hS s hs; omega
    · omega
  · rcases hmem hs with hs | rfl
    · have := hS s hs; omega
    · omega
  clear mz3 mt3 mk3 mp3 hz3 hlen hS
  rintro m4 H4 ⟨le4, mt4, mk4, mp4, r, S, mz4, hz4, hS⟩
  clear RR2
  let RR3 : LM → AH → Prop := fun m5 H5 => Le H H5 ∧ ∃ (r : Addr) (S : List Int), C3 (m5 "sizes" = some (.ref r)) (H5 r = some (.lst (S.map .int))) (SzOk kind total S)
  refine sok_step RR3
    (sok_if_eq (bv := kind == 3) (tok_cmp (eok_name mk4 (eok_int (cmp_eq ⟨_, rfl, rfl, rfl⟩)) E.k)) (fun e => sok_cons (sok_assign (part (v := 2 * t) (p12 := default) mz4 mp4 hz4 hS.len (fun H5 => eok_binop (eok_int (eok_name mt4 (bin_mul (mul2 t) ⟨rfl, rfl⟩) E.k))) rfl fun H5 r5 le5 hr5 => sok_nil ⟨rfl, le4.trans le5, r5, _, rfl, hr5, hmix hS.len, fun s hs => ?_, fun s hs => ?_, fun hn s hs => ?_⟩) (E.st (by decide)) E.k))
      (fun e => sok_nil ⟨rfl, le4, r, S, mz4, hz4, hS⟩)) ?_
  · rcases hmem hs with hs | rfl
    · exact hS.lo s hs
    · omega
  · rcases hmem hs with hs | rfl
    · exact hS.hi s hs
    · omega
  · rcases hmem hs with hs | rfl
    · exact hS.pos hn s hs
    · omega
  rintro m5 H5 ⟨le5, r, S, mz5, hz5, hS⟩
  clear RR3
  exact sok_cons (sok_return (eok_name mz5 (h H5 r S le5 hz5 hS) E.k))
end
end Mine
namespace Mine
open PySem PySem.W PySem.Calls PyProof.Rows

/-- a list of int lists -/
noncomputable abbrev PL := List (Addr × List Int)
structure PLOk (H : AH) (rp : Addr) (pl : PL) : Prop where
  at_ : H rp = some (.lst (pl.map fun p => .ref p.1))
  all : ∀ p ∈ pl, H p.1 = some (.lst (p.2.map .int))
theorem PLOk.mono {H H' : AH} {rp : Addr} {pl : PL} (h : PLOk H rp pl) (k : Le H H') : PLOk H' rp pl := ⟨k _ _ h.at_, fun p hp => k _ _ (h.all p hp)⟩
theorem PLOk.push {H : AH} {rp : Addr} {pl : PL} {r : Addr} {xs : List Int} (h : PLOk H rp pl) (hr : H r = some (.lst (xs.map .int))) (hne : ∀ p ∈ pl, p.1 ≠ rp) (hrr : r ≠ rp) : PLOk (upd H rp (.lst ((pl ++ [(r, xs)]).map fun p => .ref p.1))) rp (pl ++ [(r, xs)]) :=
  ⟨upd_self _ _ _, fun p hp => by
    rcases List.mem_append.mp hp with hp | hp
    · rw [upd_ne (hne p hp)]; exact h.all p hp
    · simp only [List.mem_singleton] at hp; subst hp; rw [upd_ne hrr]; exact hr⟩

section
variable {c : Cx} {A : Around} {env : Env} {m : LM} {H : AH} {Q : AV → AH → Prop} {K : Frag} {a : Ads} {ls gs : List Str}

theorem sc_lCut : scOk mLCut.sc ["row", "sizes", "keys", "parts", "pos", "n"] [] = true := by decide +kernel

theorem cut_ok {k : Nat} {ra sa : Addr} {rw' S : List Int} (P : Prog c K a) (hA : AOk k A) (hk : k < 60) (hR : H ra = some (.lst (rw'.map .int))) (hS : H sa = some (.lst (S.map .int))) (hr : rw'.length ≤ 1000) (hs : S.length ≤ 10)
    (h : ∀ (H' : AH) (rk rp : Addr) (kk : List Int) (pl : PL), Le H H' → H' rk = some (.lst (kk.map .int)) → kk.length ≤ S.length * rw'.length → PLOk H' rp pl → pl.length = S.length → (∀ p ∈ pl, p.2.length ≤ rw'.length) → Q (.tup [.ref rk, .ref rp]) H') :
    CodeOk c A (.ref a.lCut) [] [.ref ra, .ref sa] H Q := by
  refine (call_fn (ps := ["row", "sizes"]) (fvs := []) P.x P.nolimit P.lCut (takes_of sc_lCut (by decide) (by decide) (fun _ _ _ _ _ _ _ => len2 fun _ _ => rfl)) (by have := hA.d; simp [recursionLimit]; omega) rfl (fun h => by simp [VRs]) fun L q cd => ?_)
  have E := env0 sc_lCut L a.lCut q cd
  have hA' := hA.deeper (fenv mLCut.sc L a.lCut q cd)
  generalize A.deeper (fenv mLCut.sc L a.lCut q cd) = A' at hA' ⊢
  generalize fenv mLCut.sc L a.lCut q cd = env at E ⊢
  refine sok_cons (sok_assign (eok_list (esok_nil ⟨Nat.le_of_ble_eq_true rfl, fun rk0 hrk0 => ?_⟩)) (E.st (by decide)) E.k)
  refine sok_cons (sok_assign (eok_list (esok_nil ⟨Nat.le_of_ble_eq_true rfl, fun rp hrp => ?_⟩)) (E.st (by decide)) E.k)
  refine sok_cons (sok_assign (eok_int ?_) (E.st (by decide)) E.k)
  have hkp : rk0 ≠ rp := by rintro rfl; rw [upd_self] at hrp; cases hrp
  have hrpH : H rp = none := by rw [upd_ne hkp.symm] at hrp; exact hrp
  let RR1 : LM → AH → Prop := fun m1 H1 => ∃ (rk : Addr) (kk : List Int) (pl : PL), C8 (Le H H1) (m1 "keys" = some (.ref rk)) (m1 "parts" = some (.ref rp)) (H1 rk = some (.lst (kk.map .int))) (kk.length ≤ S.length * rw'.length) (PLOk H1 rp pl) (pl.length = S.length) ((∀ p ∈ pl, p.2.length ≤ rw'.length))
  let JJ1 : Nat → LM → AH → Prop := fun i m1 H1 => ∃ (rk : Addr) (kk : List Int) (pl : PL) (pos : Int), C12 (Le H H1) (m1 "row" = some (.ref ra)) (m1 "keys" = some (.ref rk)) (m1 "parts" = some (.ref rp)) (m1 "pos" = some (.int pos)) (H1 rk = some (.lst (kk.map .int))) (rk ≠ rp) (kk.length ≤ i * rw'.length) (PLOk H1 rp pl) ((∀ p ∈ pl, p.1 ≠ rp)) (pl.length = i) ((∀ p ∈ pl, p.2.length ≤ rw'.length))
  refine sok_step RR1
    (sok_for hA'.h (eok_name (v := .ref sa) rfl ⟨S.map .int, by simp only [iterItems, (le_upd hrk0).trans (le_upd hrp) _ _ hS], JJ1, ⟨rk0, [], [], 0, (le_upd hrk0).trans (le_upd hrp), rfl, rfl, rfl, rfl, by rw [upd_ne hkp, upd_self]; rfl, hkp, by simp, ⟨upd_self _ _ _, by simp⟩, by simp, rfl, by simp⟩, ?_, ?_⟩ E.k) (E.st (by decide)) E.k) ?_
  · rintro i m1 H1 y ⟨rk, kk, pl, pos, le1, mr1, mk1, mp1, mpos1, hk1, hne1, hkl, hpl, hpn, hpll, hpb⟩ hy
    have hi : i < S.length := by have := (List.getElem?_eq_some_iff.mp hy).1; simpa using this
    obtain ⟨n, rfl⟩ : ∃ n, y = .int n := by rw [List.getElem?_map] at hy; cases hq : S[i]? <;> rw [hq] at hy <;> simp at hy; exact ⟨_, hy.symm⟩
    refine ⟨by simp only [iterItems, le1 _ _ hS], ?_⟩
    have mn : ∀ z : Str, z ≠ "n" → updM m1 "n" (.int n) z = m1 z := fun z hz => by simp only [updM]; rw [if_neg hz]
    have mnn : updM m1 "n" (.int n) "n" = some (.int n) := by simp [updM]
    have mr2 := (mn "row" (by decide)).trans mr1
    have mk2 := (mn "keys" (by decide)).trans mk1
    have mp2 := (mn "parts" (by decide)).trans mp1
    have mo2 := (mn "pos" (by decide)).trans mpos1
    refine sok_cons (sok_expr (eok_append (pl := _) (eok_name mp2 ⟨rp, _, rfl, hpl.at_, eok_slice (eok_name mr2 (part_some (eok_name mo2 ⟨_, rfl, part_some (eok_binop (eok_name mo2 (eok_name mnn (bin_add ⟨_, rfl, ra, _, rfl, le1 _ _ hR, by simp [sizeLine]; omega, fun r1 hr1 => ?_⟩) E.k) E.k))⟩ E.k)) E.k)⟩ E.k)) E.i)
    obtain ⟨ys, hys, hyl⟩ := aslice_ints (xs := rw') (lo := some pos) (hi := some (pos + n))
    rw [hys]
    have hpl1 := hpl.mono (le_upd (o := .lst (ys.map .int)) hr1)
    have hrp1 : r1 ≠ rp := by rintro rfl; rw [hpl.at_] at hr1; cases hr1
    refine ⟨_, hpl1.at_, by simp [sizeLine]; omega, rfl, ?_⟩
    rw [show (pl.map (fun p => AV.ref p.1) ++ [AV.ref r1]) = (pl ++ [(r1, ys)]).map fun p => .ref p.1 by simp]
    have hpl2 := hpl1.push (upd_self _ _ _) hpn hrp1
    have le2 : Le H (upd (upd H1 r1 (.lst (ys.map .int))) rp (.lst ((pl ++ [(r1, ys)]).map fun p => .ref p.1))) := le_set (le1.trans (le_upd hr1)) hrpH
    have hk2 : upd (upd H1 r1 (.lst (ys.map .int))) rp (.lst ((pl ++ [(r1, ys)]).map fun p => .ref p.1)) rk = some (.lst (kk.map .int)) := by rw [upd_ne hne1]; exact le_upd hr1 _ _ hk1
    generalize upd (upd H1 r1 (.lst (ys.map .int))) rp (.lst ((pl ++ [(r1, ys)]).map fun p => .ref p.1)) = H2 at hpl2 le2 hk2 ⊢
    refine sok_cons (sok_assign (eok_binop (eok_name mk2 (eok_slice (eok_name mr2 (part_some (eok_binop (eok_name mo2 (eok_name mnn (bin_add ⟨_, rfl, part_some (eok_binop (eok_binop (eok_name mo2 (eok_name mnn (bin_add (eok_int (bin_add ⟨_, rfl, ra, _, rfl, le2 _ _ hR, by simp [sizeLine]; omega, fun r2 hr2 => ?_⟩))) E.k) E.k)))⟩) E.k) E.k))) E.k)) E.k)) (E.st (by decide)) E.k)
    obtain ⟨zs, hzs, hzl⟩ := aslice_ints (xs := rw') (lo := some (pos + n)) (hi := some (pos + n + 1))
    rw [hzs]
    have hm : (i + 1) * rw'.length = i * rw'.length + rw'.length := Nat.succ_mul _ _
    have hm2 : i * rw'.length ≤ 10 * 1000 := Nat.mul_le_mul (by omega) hr
    refine bin_add_list (le_upd hr2 _ _ hk2) (upd_self _ _ _) (by simp [sizeLine]; omega) fun r3 hr3 => ?_
    have le3 := (le_upd hr2).trans (le_upd (o := .lst (kk.map AV.int ++ zs.map AV.int)) hr3)
    have hpl3 := hpl2.mono le3
    have hn3 : r3 ≠ rp := by rintro rfl; rw [le_upd hr2 _ _ hpl2.at_] at hr3; cases hr3
    refine sok_cons (sok_assign (eok_binop (eok_binop (eok_name (v := .int pos) mo2 (eok_name (v := .int n) mnn (bin_add (eok_int (bin_add ?_))) E.k) E.k))) (E.st (by decide)) E.k)
    refine sok_nil ⟨r3, kk ++ zs, pl ++ [(r1, ys)], _, le2.trans le3, mr2, rfl, mp2, rfl, ?_, hn3, by simp; omega, hpl3, ?_, by simp [hpll], ?_⟩
    · rw [upd_self]; simp
    · intro p hp
      rcases List.mem_append.mp hp with hp | hp
      · exact hpn p hp
      · simp only [List.mem_singleton] at hp; subst hp; exact hrp1
    · intro p hp
      rcases List.mem_append.mp hp with hp | hp
      · exact hpb p hp
      · simp only [List.mem_singleton] at hp; subst hp; exact hyl
  · rintro m1 H1 ⟨rk, kk, pl, pos, le1, mr1, mk1, mp1, mpos1, hk1, hne1, hkl, hpl, hpn, hpll, hpb⟩
    refine ⟨by simp only [iterItems, le1 _ _ hS], rfl, rk, kk, pl, le1, mk1, mp1, hk1, by simpa using hkl, hpl, by simpa using hpll, hpb⟩
  rintro m1 H1 ⟨rk, kk, pl, le1, mk1, mp1, hk1, hkl, hpl, hpll, hpb⟩
  clear RR1
  exact sok_cons (sok_return (eok_tuple (esok_cons (eok_name mk1 (esok_cons (eok_name mp1 (esok_nil ⟨Nat.le_of_ble_eq_true rfl, h _ _ _ _ _ le1 hk1 hkl hpl hpll hpb⟩) E.k)) E.k))))
end
end Mine
namespace Mine
open PySem PySem.W PySem.Calls PyProof.Rows

theorem lookup_one {x y : Str} {a cc : Addr} (h : [(x, a)].lookup y = some cc) : y = x ∧ cc = a := by
  simp only [List.lookup_cons, List.lookup_nil] at h
  cases e : y == x with
  | true => rw [e] at h; simp at h; exact ⟨by simpa using e, h.symm⟩
  | false => rw [e] at h; simp at h

section
variable {c : Cx} {A : Around} {env : Env} {m : LM} {H : AH} {Q : AV → AH → Prop} {K : Frag} {a : Ads} {ls gs : List Str}

theorem takes_row : Takes mLRow ["base", "n", "kind", "at", "shift"] where
  bind := fun name qual doc pm an cdv ct => len5 fun _ _ _ _ _ => rfl
  nodup := by decide
  kinds := fun L x hx => by
    simp only [List.mem_cons, List.not_mem_nil, or_false] at hx
    rcases hx with rfl | rfl | rfl | rfl | rfl
    · exact .inr ⟨rfl, rfl⟩
    all_goals exact .inl rfl
  co := rfl
  gen := rfl
  kind := rfl

theorem row_ok {k : Nat} {base kind at_ shift : Int} {n : Nat} (P : Prog c K a) (hA : AOk k A) (hk : k < 60) (hn : n ≤ 900) (hkn : kind ≥ 10 → 0 < n)
    (h : ∀ (H' : AH) (r : Addr) (rw' : List Int), Le H H' → H' r = some (.lst (rw'.map .int)) → rw'.length ≤ 1000 → Q (.ref r) H') :
    CodeOk c A (.ref a.lRow) [] [.int base, .int n, .int kind, .int at_, .int shift] H Q := by
  refine (call_fn (ps := ["base", "n", "kind", "at", "shift"]) (fvs := []) P.x P.nolimit P.lRow takes_row (by have := hA.d; simp [recursionLimit]; omega) rfl (fun h => by simp [VRs]) fun L q cd => ?_)
  have hA' := hA.deeper (fenv mLRow.sc L a.lRow q cd)
  generalize A.deeper (fenv mLRow.sc L a.lRow q cd) = A' at hA' ⊢
  have gr : GName c (fenv mLRow.sc L a.lRow q cd) "range" (.type "range") := P.bn (by repeat (first | exact List.Mem.head _ | apply List.Mem.tail)) rfl rfl rfl rfl
  let RR1 : LM → AH → Prop := fun m1 H1 => C6 (Le H H1) (m1 "n" = some (.int n)) (m1 "kind" = some (.int kind)) (m1 "at" = some (.int at_)) (m1 "shift" = some (.int shift)) (∃ (r : Addr) (rw' : List Int), C3 (m1 "row" = some (.ref r)) (H1 r = some (.lst (rw'.map .int))) (rw'.length = n))
  refine sok_step RR1
    (sok_assign_comp (cl := [("base", L + 1)]) hA'.h ⟨rfl, by decide, rfl, by decide, rfl, fun y cc e => e, fun y cc e => ?_, rfl, fun y cc e => ?_⟩ (eok_callT gr (esok_cons (eok_name (v := .int n) rfl (esok_nil (cok_range1 (by omega) (by omega) ⟨_, (fun _ => true), (fun z => match z with | .int i => .int (base + 2 * i) | z => z), rfl, by simp [sizeLine]; omega, fun C D zs y hD hy => tests_nil ⟨rfl, rfl⟩, fun C D zs y hD hy _ => ?_, fun D hD => ⟨rfl, le_upd hD, rfl, rfl, rfl, rfl, D, (List.range n).map fun i : Nat => base + 2 * (0 + (i : Int) * 1), rfl, ?_, by simp⟩⟩))))) (swaps_comp rfl rfl) (.inl rfl)) ?_
  · obtain ⟨rfl, rfl⟩ := lookup_one e
    exact .inl rfl
  · obtain ⟨rfl, rfl⟩ := lookup_one e
    show some NameKind.cell ≠ some .local
    decide
  · obtain ⟨i, _, rfl⟩ := List.mem_map.mp hy
    refine eok_binop (eok_name (v := .int base) rfl (eok_binop (eok_int (eok_name (v := .int (0 + (i : Int) * 1)) rfl (bin_mul (mul2 _) (bin_add ⟨rfl, rfl⟩))))))
  · rw [upd_self, filter_all, List.map_map, List.map_map, Int.toNat_natCast]; rfl
  rintro m1 H1 ⟨le1, mn1, mk1, ma1, ms1, r, rw', mr1, hr1, hl1⟩
  clear RR1
  let RR2 : LM → AH → Prop := fun m1 H1 => Le H H1 ∧ ∃ (r : Addr) (rw' : List Int), C3 (m1 "row" = some (.ref r)) (H1 r = some (.lst (rw'.map .int))) (rw'.length ≤ 1000)
  refine sok_step RR2
    (sok_if_eq (bv := decide (kind ≥ 10)) (tok_cmp (eok_name mk1 (eok_int (cmp_ge ⟨_, rfl, rfl, rfl⟩)))) (fun e => ?_) (fun e => sok_nil ⟨rfl, le1, r, rw', mr1, hr1, by omega⟩)) ?_
  · have hn0 := hkn (by simpa using e)
    have f1 := Int.fmod_nonneg_of_pos at_ (show (0 : Int) < n by omega)
    have f2 := Int.fmod_lt_of_pos at_ (show (0 : Int) < n by omega)
    refine sok_cons (sok_assign (eok_binop (eok_name ma1 (eok_name mn1 (bin_mod (by omega) ?_)))) (.inl rfl))
    obtain ⟨sp, hsp⟩ : ∃ sp : Nat, at_.fmod n = sp := ⟨(at_.fmod n).toNat, by omega⟩
    rw [hsp]
    have hspn : sp < rw'.length := by omega
    have mr2 : updM m1 "spot" (.int sp) "row" = some (.ref r) := by simp only [updM]; rw [if_neg (by decide)]; exact mr1
    have ms2 : updM m1 "spot" (.int sp) "spot" = some (.int sp) := by simp [updM]
    have mh2 : updM m1 "spot" (.int sp) "shift" = some (.int shift) := by simp only [updM]; rw [if_neg (by decide)]; exact ms1
    refine sok_cons (sok_assign (eok_binop (eok_binop (eok_slice (eok_name mr2 (part_none (part_some (eok_name ms2 ⟨_, rfl, r, _, rfl, hr1, by simp [sizeLine]; omega, fun r1 hr1' => ?_⟩))))))) (.inl rfl))
    refine eok_list (esok_cons (eok_binop (eok_item_lst (eok_name mr2 (eok_name ms2 ⟨r, _, _, .int rw'[sp], rfl, rfl, le_upd hr1' _ _ hr1, by omega, by omega, by simp [hspn], eok_name mh2 (bin_add ?_)⟩)))))
    refine esok_nil ⟨Nat.le_of_ble_eq_true rfl, fun r2 hr2 => bin_add_list (le_upd hr2 _ _ (upd_self _ _ _)) (upd_self _ _ _) ?_ fun r3 hr3 => ?_⟩
    · rw [aslice_to]; simp [sizeLine]; omega
    refine eok_slice (eok_name mr2 (part_some (eok_binop (eok_name ms2 (eok_int (bin_add ⟨_, rfl, part_none ⟨r, _, rfl, le_upd hr3 _ _ (le_upd hr2 _ _ (le_upd hr1' _ _ hr1)), by simp [sizeLine]; omega, fun r4 hr4 => ?_⟩⟩))))))
    rw [show ((sp : Int) + 1) = ((sp + 1 : Nat) : Int) by omega, aslice_from, aslice_to] at *
    refine bin_add_list (le_upd hr4 _ _ (upd_self _ _ _)) (upd_self _ _ _) (by simp [sizeLine]; omega) fun r5 hr5 => ?_
    refine sok_nil ⟨rfl, le1.trans ((((le_upd hr1').trans (le_upd hr2)).trans (le_upd hr3)).trans ((le_upd hr4).trans (le_upd hr5))), r5, rw'.take sp ++ [rw'[sp] + shift] ++ rw'.drop (sp + 1), rfl, ?_, by simp; omega⟩
    rw [upd_self]; simp [List.map_take, List.map_drop]
  rintro m2 H2 ⟨le2, r, rw', mr2, hr2, hl2⟩
  clear RR2
  exact sok_cons (sok_return (eok_name mr2 (h H2 r rw' le2 hr2 hl2)))
end
end Mine
namespace Mine
open PySem PySem.W PySem.Calls PyProof.Rows

theorem aslice_of {α : Type} {f : α → AV} {xs : List α} {lo hi : Option Int} : ∃ ys : List α, aslice (xs.map f) lo hi = ys.map f ∧ ys.length ≤ xs.length ∧ ∀ y ∈ ys, y ∈ xs := by
  refine ⟨(xs.drop (lo.elim 0 (clipAt xs.length))).take (hi.elim xs.length (clipAt xs.length) - lo.elim 0 (clipAt xs.length)), ?_, ?_, ?_⟩
  · simp [aslice, List.map_take, List.map_drop]
  · simp; omega
  · intro y hy
    exact List.mem_of_mem_drop (List.mem_of_mem_take hy)
theorem wtL_le {Ts : List Tree} {B : Nat} (h : ∀ T ∈ Ts, wt T ≤ B) : wtL Ts ≤ Ts.length * B := by
  induction Ts with
  | nil => simp [wtL]
  | cons T Ts ih =>
    have h1 := h T (by simp)
    have h2 := ih fun T' h' => h T' (by simp [h'])
    simp only [wtL, List.length_cons, Nat.succ_mul]; omega

/-- the list of kids under way -/
noncomputable def KidsAt (a : Ads) (Hc H1 : AH) (kl : Addr) (d : Int) (lr : List LR) : Prop := ∃ H0, H0 kl = none ∧ H1 = upd H0 kl (.lst (lr.map lAV)) ∧ Le Hc H0 ∧ ∀ p ∈ lr, Laid a H0 d p
theorem KidsAt.le {a : Ads} {Hc H1 : AH} {kl : Addr} {d : Int} {lr : List LR} (h : KidsAt a Hc H1 kl d lr) : Le Hc H1 ∧ H1 kl = some (.lst (lr.map lAV)) ∧ ∀ p ∈ lr, Laid a H1 d p := by
  obtain ⟨H0, h1, rfl, h2, h3⟩ := h
  exact ⟨h2.trans (le_upd h1), upd_self _ _ _, fun p hp => (h3 p hp).mono (le_upd h1)⟩

section
variable {c : Cx} {A : Around} {env : Env} {m : LM} {H : AH} {Q : AV → AH → Prop} {K : Frag} {a : Ads} {ls gs : List Str}

theorem eok_frame {e : Expr} {H0 : AH} {kl : Addr} {o : AO} (h0 : H0 kl = none) (h : EOk c A env e m H0 Q) : EOk c A env e m (upd H0 kl o) (fun v H' => ∃ H0', H0' kl = none ∧ H' = upd H0' kl o ∧ Q v H0') := by
  intro s G F
  have hno : ∀ x, upd H0 kl o x = none → H0 x = none ∧ x ≠ kl := fun x e => by
    by_cases hx : x = kl
    · subst hx; rw [upd_self] at e; cases e
    · rw [upd_ne hx] at e; exact ⟨e, hx⟩
  have G0 : GH c H0 s := G.mono (le_upd h0)
  have F0 : GF c env m H0 s := ⟨(hno _ F.own).1, F.new, fun x cc e => ⟨(hno _ (F.cells x cc e).1).1, (F.cells x cc e).2⟩, F.ns⟩
  refine bind2 (h s G0 F0) fun rv s₁ ⟨v, H0', r, G', t, q⟩ => ?_
  have hk := G.objs kl o (upd_self _ _ _)
  obtain ⟨ob, hob, _⟩ := hk.1.there
  have hn := t.dom kl ob h0 hob
  refine ⟨v, upd H0' kl o, r, ⟨fun x ox e => ?_, G'.keep, G'.bare⟩, ⟨fun x ox e g => t.keep x ox (hno x e).1 g, fun x ox e g => ?_, t.os⟩, H0', hn, rfl, q⟩
  · by_cases hx : x = kl
    · subst hx; rw [upd_self] at e; cases e
      exact ⟨hk.1.kept (t.tup G0) (fun o' e' => t.keep x o' h0 e'), hk.2⟩
    · rw [upd_ne hx] at e; exact G'.objs x ox e
  · rw [upd_ne (hno x e).2]; exact t.dom x ox (hno x e).1 g

theorem eok_fn {x : Str} {p pos : Pos} {f : Addr} {F : FD} {e : Expr} {es : List Expr} (P : Prog c K a) (g : GName c env x (.ref f)) (M : FnAt K f F) (h : EsOk c A env (e :: es) m H fun vs H₁ => CodeOk c A (.ref f) [] vs H₁ Q) (hp : plainArgs (e :: es) = true := by rfl) :
    EOk c A env (.Call (.Name x p) (e :: es) [] pos) m H Q := by
  obtain ⟨_, _, _, _, _, _, _, _, _, _, hK, _⟩ := M
  exact eok_callF g (P.x _ _ hK) rfl (fun s rvs G r => bind2 (h s rvs G r) fun _ _ ⟨avs, H', z1, z2, z3, z4⟩ => ⟨avs, H', z1, z2, z3, z4.cok⟩) hp

theorem sc_lTwig : scOk mLTwig.sc ["row", "sizes", "hurt", "depth", "keys", "parts", "kids", "part"] ["len", "_law_lay", "_law_cut"] = true := by decide +kernel

theorem twig_ok {k : Nat} {ra sa : Addr} {rw' S : List Int} {h0 h1 h2 dep : Int} (P : Prog c K a) (hA : AOk k A) (hk : k < 50) (hR : H ra = some (.lst (rw'.map .int))) (hS : H sa = some (.lst (S.map .int))) (hr : rw'.length ≤ 1000) (hs : S.length ≤ 10) (hs1 : 0 < S.length)
    (h : ∀ (H' : AH) (p : LR), Le H H' → Laid a H' dep p → wt p.1 ≤ 50000 → Q (lAV p) H') :
    CodeOk c A (.ref a.lTwig) [] [.ref ra, .ref sa, .tup [.int h0, .int h1, .int h2], .int dep] H Q := by
  refine (call_fn (ps := ["row", "sizes", "hurt", "depth"]) (fvs := []) P.x P.nolimit P.lTwig (takes_of sc_lTwig (by decide) (by decide) (fun _ _ _ _ _ _ _ => len4 fun _ _ _ _ => rfl)) (by have := hA.d; simp [recursionLimit]; omega) rfl (fun h => by simp [VRs]) fun L q cd => ?_)
  have E := env0 sc_lTwig L a.lTwig q cd
  have hA' := hA.deeper (fenv mLTwig.sc L a.lTwig q cd)
  generalize A.deeper (fenv mLTwig.sc L a.lTwig q cd) = A' at hA' ⊢
  generalize fenv mLTwig.sc L a.lTwig q cd = env at E ⊢
  have gl := E.len_ P
  have gy : GName c env "_law_lay" (.ref a.lLay) := E.gn P (by repeat (first | exact List.Mem.head _ | apply List.Mem.tail)) (by simp)
  have gc : GName c env "_law_cut" (.ref a.lCut) := E.gn P (by repeat (first | exact List.Mem.head _ | apply List.Mem.tail)) (by simp)
  refine sok_cons (sok_if_eq (bv := (S.length : Int) == 1) (tok_cmp (eok_callB gl (esok_cons (eok_name (v := .ref sa) rfl (esok_nil (cok_len (n := S.length) (by simp [alen, hS]) (by omega) (eok_int (cmp_eq ⟨_, rfl, rfl, rfl⟩)))) E.k)))) (fun e => ?_) (fun e => sok_nil ?_))
  · refine sok_cons (sok_return (eok_fn P gy P.lLay (esok_cons (eok_name (v := .ref ra) rfl (esok_cons (eok_item_tup (eok_name (v := .tup [.int h0, .int h1, .int h2]) rfl (eok_int ⟨_, _, _, rfl, rfl, by decide, by decide, rfl, esok_cons (eok_list (esok_nil ⟨Nat.le_of_ble_eq_true rfl, fun r hr => esok_cons (eok_name (v := .int dep) rfl (esok_nil ?_) E.k)⟩))⟩) E.k))) E.k))))
    refine lay_ok (lr := []) P hA' (by omega) (le_upd hr _ _ hR) (upd_self _ _ _) (by simp) (by simp [wtL]; omega) fun H' p vs le' hp he hv => ?_
    refine h H' p ((le_upd hr).trans le') hp ?_
    rw [he]; simp [wt, wtL]; omega
  let RR1 : LM → AH → Prop := fun m1 H1 => C4 (Le H H1) (m1 "hurt" = some (.tup [.int h0, .int h1, .int h2])) (m1 "depth" = some (.int dep)) (∃ (rk rp : Addr) (kk : List Int) (pl : PL), C7 (m1 "keys" = some (.ref rk)) (m1 "parts" = some (.ref rp)) (H1 rk = some (.lst (kk.map .int))) (kk.length ≤ 10000) (PLOk H1 rp pl) (pl.length = S.length) ((∀ p ∈ pl, p.2.length ≤ 1000)))
  refine sok_step RR1
    (sok_unpack [("keys", _), ("parts", _)] hA'.h (eok_fn P gc P.lCut (esok_cons (eok_name (v := .ref ra) rfl (esok_cons (eok_name (v := .ref sa) rfl (esok_nil (cut_ok P hA' (by omega) hR hS hr hs fun H' rk rp kk pl le' hk' hkl hpl hpll hpb => ?_)) E.k)) E.k))) rfl (by
      intro x hx
      simp only [List.map_cons, List.map_nil, List.mem_cons, List.not_mem_nil, or_false] at hx
      rcases hx with rfl | rfl
      · exact E.st (by decide)
      · exact E.st (by decide)) E.k) ?_
  · have hm : S.length * rw'.length ≤ 10 * 1000 := Nat.mul_le_mul hs hr
    exact ⟨_, rfl, rfl, rfl, le', rfl, rfl, rk, rp, kk, pl, rfl, rfl, hk', by omega, hpl, hpll, fun p hp => by have := hpb p hp; omega⟩
  rintro m1 H1 ⟨le1, mh1, md1, rk, rp, kk, pl, mk1, mp1, hk1, hkl, hpl, hpll, hpb⟩
  clear RR1
  have leaf : ∀ {e1 e2 ed : Expr} {p1 p2 p3 : Pos} {A2 : Around} {H3 : AH} {m3 : LM} {r : Addr} {xs : List Int} {sl : Int} {Q' : AV → AH → Prop}, AOk (k + 1) A2 → H3 r = some (.lst (xs.map .int)) → xs.length ≤ 1000 → (EOk c A2 env e1 m3 H3 fun v H4 => v = .ref r ∧ H4 = H3) → (EOk c A2 env e2 m3 H3 fun v H4 => v = .int sl ∧ H4 = H3) → (∀ H5, EOk c A2 env ed m3 H5 fun v H4 => v = .int (dep + 1) ∧ H4 = H5) →
      plainArgs [e1, e2, .List [] p3, ed] = true →
      (∀ e ∈ [e1, e2, .List [] p3, ed], ∀ rest env, starEach (e :: rest) env = (false, eval e env) :: starEach rest env) →
      (∀ (H' : AH) (p : LR), Le H3 H' → Laid a H' (dep + 1) p → wt p.1 ≤ 2003 → Q' (lAV p) H') → EOk c A2 env (.Call (.Name "_law_lay" p1) [e1, e2, .List [] p3, ed] [] p2) m3 H3 Q' := by
    intro e1 e2 ed p1 p2 p3 A2 H3 m3 r xs sl Q' hA2 hr3 hxl h1 h2 h3 hpa hst hq
    refine eok_fn P gy P.lLay (esok_cons (h1.mono fun v H4 e4 => ?_) (hst e1 (by simp) _ _)) hpa
    rw [e4.1, e4.2]
    refine esok_cons (h2.mono fun v H4 e4 => ?_) (hst e2 (by simp) _ _)
    rw [e4.1, e4.2]
    refine esok_cons (eok_list (esok_nil ⟨Nat.le_of_ble_eq_true rfl, fun r5 hr5 => esok_cons ((h3 _).mono fun v H4 e4 => ?_) (hst ed (by simp) _ _)⟩))
    rw [e4.1, e4.2]
    refine esok_nil (lay_ok (lr := []) P hA2 (by omega) (le_upd hr5 _ _ hr3) (upd_self _ _ _) (by simp) (by simp [wtL]; omega) fun H' p vs le' hp he hv => ?_)
    refine hq H' p ((le_upd hr5).trans le') hp ?_
    rw [he]; simp [wt, wtL]; omega
  refine sok_cons (sok_assign (eok_list (esok_nil ⟨Nat.le_of_ble_eq_true rfl, fun kl hkl0 => ?_⟩)) (E.st (by decide)) E.k)
  have K0 : KidsAt a H1 (upd H1 kl (.lst [])) kl (dep + 1) [] := ⟨H1, hkl0, rfl, .refl _, by simp⟩
  let RR2 : LM → AH → Prop := fun m2 H2 => C6 (m2 "hurt" = some (.tup [.int h0, .int h1, .int h2])) (m2 "depth" = some (.int dep)) (m2 "keys" = some (.ref rk)) (m2 "parts" = some (.ref rp)) (m2 "kids" = some (.ref kl)) (∃ lr : List LR, C3 (KidsAt a H1 H2 kl (dep + 1) lr) (lr.length ≤ 10) (∀ p ∈ lr, wt p.1 ≤ 2003))
  let JJ1 : Nat → LM → AH → Prop := fun i m2 H2 => C6 (m2 "hurt" = some (.tup [.int h0, .int h1, .int h2])) (m2 "depth" = some (.int dep)) (m2 "keys" = some (.ref rk)) (m2 "parts" = some (.ref rp)) (m2 "kids" = some (.ref kl)) (∃ lr : List LR, C3 (KidsAt a H1 H2 kl (dep + 1) lr) (lr.length = i) (∀ p ∈ lr, wt p.1 ≤ 2003))
  refine sok_step RR2
    (sok_for hA'.h (eok_name (v := .ref rp) mp1 ⟨pl.map fun p => .ref p.1, by simp only [iterItems, K0.le.1 _ _ hpl.at_], JJ1, ⟨mh1, md1, mk1, mp1, rfl, [], K0, rfl, by simp⟩, ?_, ?_⟩ E.k) (E.st (by decide)) E.k) ?_
  · rintro i m2 H2 y ⟨mh2, md2, mk2, mp2, mkl2, lr, K2, hlr, hw⟩ hy
    have hi : i < pl.length := by have := (List.getElem?_eq_some_iff.mp hy).1; simpa using this
    rw [List.getElem?_map, List.getElem?_eq_getElem hi] at hy
    simp only [Option.map_some, Option.some.injEq] at hy
    subst hy
    have hpi := hpl.all pl[i] (List.getElem_mem hi)
    have hpb' := hpb pl[i] (List.getElem_mem hi)
    refine ⟨by simp only [iterItems, K2.le.1 _ _ hpl.at_], ?_⟩
    have mn : ∀ z : Str, z ≠ "part" → updM m2 "part" (.ref pl[i].1) z = m2 z := fun z hz => by simp only [updM]; rw [if_neg hz]
    obtain ⟨H0, hk0, rfl, le0, hl0⟩ := K2
    refine sok_cons (sok_expr (eok_append (pl := _) (eok_name ((mn _ (by decide)).trans mkl2) ⟨kl, _, rfl, upd_self _ _ _, (eok_frame hk0 (leaf hA' (le0 _ _ hpi) hpb' (eok_name (by simp [updM]) ⟨rfl, rfl⟩ E.k) (eok_item_tup (eok_name ((mn _ (by decide)).trans mh2) (eok_int ⟨_, _, _, rfl, rfl, by decide, by decide, rfl, rfl, rfl⟩) E.k)) (fun H5 => eok_binop (eok_name ((mn _ (by decide)).trans md2) (eok_int (bin_add ⟨rfl, rfl⟩)) E.k)) rfl (by
      intro e he rest env
      simp only [List.mem_cons, List.not_mem_nil, or_false] at he
      rcases he with rfl | rfl | rfl | rfl <;> rfl) (Q' := fun v H' => ∃ p, v = lAV p ∧ Le H0 H' ∧ Laid a H' (dep + 1) p ∧ wt p.1 ≤ 2003) fun H' p le' hp hwp => ⟨p, rfl, le', hp, hwp⟩)).mono fun v H' hv => ?_⟩ E.k)) E.i)
    obtain ⟨H0', hk0', rfl, p, rfl, le', hp, hwp⟩ := hv
    refine ⟨_, upd_self _ _ _, by simp [sizeLine]; omega, rfl, ?_⟩
    rw [upd_upd]
    refine sok_nil ⟨(mn _ (by decide)).trans mh2, (mn _ (by decide)).trans md2, (mn _ (by decide)).trans mk2, (mn _ (by decide)).trans mp2, (mn _ (by decide)).trans mkl2, lr ++ [p], ⟨H0', hk0', by simp, le0.trans le', fun p' hp' => ?_⟩, by simp [hlr], fun p' hp' => ?_⟩
    · rcases List.mem_append.mp hp' with hp' | hp'
      · exact (hl0 p' hp').mono le'
      · simp only [List.mem_singleton] at hp'; subst hp'; exact hp
    · rcases List.mem_append.mp hp' with hp' | hp'
      · exact hw p' hp'
      · simp only [List.mem_singleton] at hp'; subst hp'; exact hwp
  · rintro m2 H2 ⟨mh2, md2, mk2, mp2, mkl2, lr, K2, hlr, hw⟩
    exact ⟨by simp only [iterItems, K2.le.1 _ _ hpl.at_], rfl, mh2, md2, mk2, mp2, mkl2, lr, K2, by rw [hlr, List.length_map]; omega, hw⟩
  rintro m2 H2 ⟨mh2, md2, mk2, mp2, mkl2, lr, K2, hlr, hw⟩
  clear RR2
  let RR3 : LM → AH → Prop := fun m3 H3 => C5 (m3 "hurt" = some (.tup [.int h0, .int h1, .int h2])) (m3 "depth" = some (.int dep)) (m3 "keys" = some (.ref rk)) (m3 "parts" = some (.ref rp)) (∃ kl, m3 "kids" = some (.ref kl) ∧ ∃ lr : List LR, C3 (KidsAt a H1 H3 kl (dep + 1) lr) (lr.length ≤ 10) (∀ p ∈ lr, wt p.1 ≤ 2003))
  refine sok_step RR3
    (sok_if_eq (bv := h2 == 1) (tok_cmp (eok_item_tup (eok_name mh2 (eok_int ⟨_, _, _, rfl, rfl, by decide, by decide, rfl, eok_int (cmp_eq ⟨_, rfl, rfl, rfl⟩)⟩) E.k))) (fun e => sok_cons (sok_assign (eok_slice (eok_name mkl2 (part_none (part_some (eok_neg (eok_int ⟨_, rfl, _, rfl, _, _, rfl, K2.le.2.1, by simp [sizeLine]; omega, fun r hr => ?_⟩)))) E.k)) (E.st (by decide)) E.k)) (fun e => sok_nil ⟨rfl, mh2, md2, mk2, mp2, _, mkl2, lr, K2, hlr, hw⟩)) ?_
  · obtain ⟨ys, hys, hyl, hym⟩ := aslice_of (f := lAV) (xs := lr) (lo := none) (hi := some (-1))
    rw [hys]
    exact sok_nil ⟨rfl, mh2, md2, mk2, mp2, r, rfl, ys, ⟨H2, hr, rfl, K2.le.1, fun p hp => K2.le.2.2 p (hym p hp)⟩, by omega, fun p hp => hw p (hym p hp)⟩
  clear JJ1 mh2 md2 mk2 mp2 mkl2 K2 hlr hw m2 H2 lr K0 hkl0 kl
  rintro m2 H2 ⟨mh2, md2, mk2, mp2, kl, mkl2, lr, K2, hlr, hw⟩
  clear RR3
  let RR4 : LM → AH → Prop := fun m3 H3 => C4 (m3 "hurt" = some (.tup [.int h0, .int h1, .int h2])) (m3 "depth" = some (.int dep)) (m3 "keys" = some (.ref rk)) (∃ kl, m3 "kids" = some (.ref kl) ∧ ∃ lr : List LR, C3 (KidsAt a H1 H3 kl (dep + 1) lr) (lr.length ≤ 11) (∀ p ∈ lr, wt p.1 ≤ 2003))
  refine sok_step RR4
    (sok_if_eq (bv := h2 == 2) (tok_cmp (eok_item_tup (eok_name mh2 (eok_int ⟨_, _, _, rfl, rfl, by decide, by decide, rfl, eok_int (cmp_eq ⟨_, rfl, rfl, rfl⟩)⟩) E.k))) (fun e => ?_) (fun e => sok_nil ⟨rfl, mh2, md2, mk2, _, mkl2, lr, K2, by omega, hw⟩)) ?_
  · obtain ⟨H0, hk0, rfl, le0, hl0⟩ := K2
    have hp0 : 0 < pl.length := by omega
    refine sok_cons (sok_expr (eok_append (pl := _) (eok_name mkl2 ⟨kl, _, rfl, upd_self _ _ _, (eok_frame hk0 (leaf (sl := 0) hA' (le0 _ _ (hpl.all pl[0] (List.getElem_mem hp0))) (hpb pl[0] (List.getElem_mem hp0)) (eok_item_lst (eok_name mp2 (eok_int ⟨rp, _, _, _, rfl, rfl, le0 _ _ hpl.at_, by decide, by decide, by simp [hp0], rfl, rfl⟩) E.k)) (eok_int ⟨rfl, rfl⟩) (fun H5 => eok_binop (eok_name md2 (eok_int (bin_add ⟨rfl, rfl⟩)) E.k)) rfl (by
      intro e he rest env
      simp only [List.mem_cons, List.not_mem_nil, or_false] at he
      rcases he with rfl | rfl | rfl | rfl <;> rfl) (Q' := fun v H' => ∃ p, v = lAV p ∧ Le H0 H' ∧ Laid a H' (dep + 1) p ∧ wt p.1 ≤ 2003) fun H' p le' hp hwp => ⟨p, rfl, le', hp, hwp⟩)).mono fun v H' hv => ?_⟩ E.k)) E.i)
    obtain ⟨H0', hk0', rfl, p, rfl, le', hp, hwp⟩ := hv
    refine ⟨_, upd_self _ _ _, by simp [sizeLine]; omega, rfl, ?_⟩
    rw [upd_upd]
    refine sok_nil ⟨rfl, mh2, md2, mk2, kl, mkl2, lr ++ [p], ⟨H0', hk0', by simp, le0.trans le', fun p' hp' => ?_⟩, by simp; omega, fun p' hp' => ?_⟩
    · rcases List.mem_append.mp hp' with hp' | hp'
      · exact (hl0 p' hp').mono le'
      · simp only [List.mem_singleton] at hp'; subst hp'; exact hp
    · rcases List.mem_append.mp hp' with hp' | hp'
      · exact hw p' hp'
      · simp only [List.mem_singleton] at hp'; subst hp'; exact hwp
  clear mh2 md2 mk2 mp2 mkl2 K2 hlr hw m2 H2 lr kl
  rintro m2 H2 ⟨mh2, md2, mk2, kl, mkl2, lr, K2, hlr, hw⟩
  clear RR4
  have hwL : wtL (lr.map (·.1)) ≤ 11 * 2003 := Nat.le_trans (wtL_le (B := 2003) fun T hT => by obtain ⟨p, hp, rfl⟩ := List.mem_map.mp hT; exact hw p hp) (by rw [List.length_map]; exact Nat.mul_le_mul_right _ hlr)
  refine sok_cons (sok_return (eok_fn P gy P.lLay (esok_cons (eok_name mk2 (esok_cons (eok_item_tup (eok_name mh2 (eok_int ⟨_, _, _, rfl, rfl, by decide, by decide, rfl, esok_cons (eok_name mkl2 (esok_cons (eok_name md2 (esok_nil ?_) E.k)) E.k)⟩) E.k))) E.k))))
  refine lay_ok (lr := lr) P hA' (by omega) (K2.le.1 _ _ hk1) K2.le.2.1 K2.le.2.2 (by omega) fun H' p vs le' hp he hv => ?_
  refine h H' p ((le1.trans K2.le.1).trans le') hp ?_
  rw [he]; simp only [wt]; omega
end
end Mine
namespace Mine
open PySem PySem.W PySem.Calls PyProof.Rows

theorem aslice_mid {xs : List AV} {i g : Nat} (h : i + g ≤ xs.length) : aslice xs (some (i : Int)) (some ((i : Int) + (g : Int))) = (xs.drop i).take g := by
  have := aslice_nat (xs := xs) (i := i) (j := i + g)
  rw [show (((i + g : Nat) : Int)) = (i : Int) + g by omega] at this
  rw [this, Nat.min_eq_left h, Nat.min_eq_left (show i ≤ xs.length by omega)]; congr 1; omega

noncomputable def intsOf (H : AH) (x : Addr) : List Int := match H x with
  | some (.lst xs) => xs.filterMap (fun v => match v with | .int i => some i | _ => none)
  | _ => []
theorem intsOf_of {H : AH} {x : Addr} {ns : List Int} (h : H x = some (.lst (ns.map .int))) : intsOf H x = ns := by
  simp only [intsOf, h, List.filterMap_map]
  induction ns with
  | nil => rfl
  | cons n ns ih => simp [Function.comp_def]

theorem sum_bound {B : Int} : ∀ {ns : List Int}, (∀ x ∈ ns, 0 ≤ x ∧ x ≤ B) → 0 ≤ ns.sum ∧ ns.sum ≤ ns.length * B
  | [], _ => by simp
  | n :: ns, h => by
    have h1 := h n (by simp)
    have h2 := sum_bound (ns := ns) fun x hx => h x (by simp [hx])
    rw [List.sum_cons, List.length_cons, Int.natCast_add, Int.add_mul]
    omega
theorem hurt_at : ∀ n : Nat, n < 12 → ∃ h0 h1 h2, (HURTS.map aInts)[n]? = some (.tup [.int h0, .int h1, .int h2])
  | 0, _ => ⟨_, _, _, rfl⟩
  | 1, _ => ⟨_, _, _, rfl⟩
  | 2, _ => ⟨_, _, _, rfl⟩
  | 3, _ => ⟨_, _, _, rfl⟩
  | 4, _ => ⟨_, _, _, rfl⟩
  | 5, _ => ⟨_, _, _, rfl⟩
  | 6, _ => ⟨_, _, _, rfl⟩
  | 7, _ => ⟨_, _, _, rfl⟩
  | 8, _ => ⟨_, _, _, rfl⟩
  | 9, _ => ⟨_, _, _, rfl⟩
  | 10, _ => ⟨_, _, _, rfl⟩
  | 11, _ => ⟨_, _, _, rfl⟩
  | n + 12, h => by omega
theorem sum_take_le : ∀ (gs : List Nat) (i : Nat) (h : i < gs.length), (gs.take i).sum + gs[i] ≤ gs.sum
  | g :: gs, 0, _ => by simp
  | g :: gs, i + 1, h => by
    have := sum_take_le gs i (by simpa using h)
    simp only [List.take_succ_cons, List.sum_cons, List.getElem_cons_succ]; omega

section
variable {c : Cx} {A : Around} {env : Env} {m : LM} {H : AH} {Q : AV → AH → Prop} {K : Frag} {a : Ads} {ls gs : List Str}

theorem sc_lTree : scOk mLTree.sc ["row", "shape", "sizes", "kind", "spot", "groups", "pos", "g", "keys", "rows", "kids", "j", "hurt"] ["len", "range", "_law_lay", "_law_cut", "_law_twig", "_law_HURTS"] = true := by decide +kernel

theorem tree_ok {k : Nat} {ra sa : Addr} {rw' S : List Int} {gs : List Nat} {kind spot : Int} (P : Prog c K a) (hA : AOk k A) (hk : k < 40) (hR : H ra = some (.lst (rw'.map .int))) (hS : H sa = some (.lst (S.map .int))) (hr : rw'.length ≤ 1000) (hSl : S.length = gs.sum) (hS6 : ∀ s ∈ S, 0 ≤ s ∧ s ≤ 6) (hg1 : ∀ g ∈ gs, 1 ≤ g) (hg6 : gs.sum ≤ 6) (hgl : gs.length = 1 ∨ gs.length = 2) (hk0 : 0 ≤ kind) (hk12 : kind < 12)
    (h : ∀ (H' : AH) (p : LR), Le H H' → Laid a H' 0 p → wt p.1 < 2 ^ 19 → Q (lAV p) H') :
    CodeOk c A (.ref a.lTree) [] [.ref ra, aInts (gs.map fun n : Nat => (n : Int)), .ref sa, .int kind, .int spot] H Q := by
  refine (call_fn (ps := ["row", "shape", "sizes", "kind", "spot"]) (fvs := []) P.x P.nolimit P.lTree (takes_of sc_lTree (by decide) (by decide) (fun _ _ _ _ _ _ _ => len5 fun _ _ _ _ _ => rfl)) (by have := hA.d; simp [recursionLimit]; omega) rfl (fun h => by simp [VRs]) fun L q cd => ?_)
  have E := env0 sc_lTree L a.lTree q cd
  have hA' := hA.deeper (fenv mLTree.sc L a.lTree q cd)
  generalize A.deeper (fenv mLTree.sc L a.lTree q cd) = A' at hA' ⊢
  generalize fenv mLTree.sc L a.lTree q cd = env at E ⊢
  have gl := E.len_ P
  have gr := E.range_ P
  have gy : GName c env "_law_lay" (.ref a.lLay) := E.gn P (by repeat (first | exact List.Mem.head _ | apply List.Mem.tail)) (by simp)
  have gc : GName c env "_law_cut" (.ref a.lCut) := E.gn P (by repeat (first | exact List.Mem.head _ | apply List.Mem.tail)) (by simp)
  have gt : GName c env "_law_twig" (.ref a.lTwig) := E.gn P (by repeat (first | exact List.Mem.head _ | apply List.Mem.tail)) (by simp)
  have gh : GName c env "_law_HURTS" (.ref a.hurts) := E.gn P (by repeat (first | exact List.Mem.head _ | apply List.Mem.tail)) (by simp)
  refine sok_cons (sok_assign (eok_list (esok_nil ⟨Nat.le_of_ble_eq_true rfl, fun gr0 hgr0 => ?_⟩)) (E.st (by decide)) E.k)
  refine sok_cons (sok_assign (eok_int ?_) (E.st (by decide)) E.k)
  have keep : ∀ (m1 : LM) (g : AV), updM m1 "g" g "row" = m1 "row" := fun m1 g => by simp only [updM]; rw [if_neg (by decide)]
  let RR1 : LM → AH → Prop := fun m1 H1 => C7 (Le H H1) (m1 "row" = some (.ref ra)) (m1 "shape" = some (aInts (gs.map fun n : Nat => (n : Int)))) (m1 "kind" = some (.int kind)) (m1 "spot" = some (.int spot)) (m1 "groups" = some (.ref gr0)) (∃ grp : PL, C3 (PLOk H1 gr0 grp) (grp.length = gs.length) (∀ p ∈ grp, 0 < p.2.length ∧ p.2.length ≤ 6 ∧ ∀ x ∈ p.2, 0 ≤ x ∧ x ≤ 6))
  let JJ1 : Nat → LM → AH → Prop := fun i m1 H1 => C9 (Le H H1) (m1 "row" = some (.ref ra)) (m1 "shape" = some (aInts (gs.map fun n : Nat => (n : Int)))) (m1 "sizes" = some (.ref sa)) (m1 "kind" = some (.int kind)) (m1 "spot" = some (.int spot)) (m1 "groups" = some (.ref gr0)) (m1 "pos" = some (.int ((gs.take i).sum : Nat))) (∃ grp : PL, C4 (PLOk H1 gr0 grp) ((∀ p ∈ grp, p.1 ≠ gr0)) (grp.length = i) (∀ p ∈ grp, 0 < p.2.length ∧ p.2.length ≤ 6 ∧ ∀ x ∈ p.2, 0 ≤ x ∧ x ≤ 6))
  refine sok_step RR1
    (sok_for hA'.h (eok_name (v := aInts (gs.map fun n : Nat => (n : Int))) rfl ⟨(gs.map fun n : Nat => (n : Int)).map .int, rfl, JJ1, ⟨le_upd hgr0, rfl, rfl, rfl, rfl, rfl, rfl, rfl, [], ⟨upd_self _ _ _, by simp⟩, by simp, rfl, by simp⟩, ?_, ?_⟩ E.k) (E.st (by decide)) E.k) ?_
  · rintro i m1 H1 y ⟨le1, mr1, msh1, msz1, mk1, msp1, mg1, mp1, grp, hpl, hpn, hpl2, hpa⟩ hy
    have hi : i < gs.length := by have := (List.getElem?_eq_some_iff.mp hy).1; simpa using this
    rw [List.getElem?_map, List.getElem?_map, List.getElem?_eq_getElem hi] at hy
    simp only [Option.map_some, Option.some.injEq] at hy
    subst hy
    refine ⟨rfl, ?_⟩
    have mn : ∀ z : Str, z ≠ "g" → updM m1 "g" (.int (gs[i] : Nat)) z = m1 z := fun z hz => by simp only [updM]; rw [if_neg hz]
    have mgg : updM m1 "g" (.int (gs[i] : Nat)) "g" = some (.int (gs[i] : Nat)) := by simp [updM]
    have mp2 := (mn "pos" (by decide)).trans mp1
    have hst := sum_take_le gs i hi
    have hgi := hg1 gs[i] (List.getElem_mem hi)
    refine sok_cons (sok_expr (eok_append (pl := _) (eok_name ((mn _ (by decide)).trans mg1) ⟨gr0, _, rfl, hpl.at_, eok_slice (eok_name ((mn _ (by decide)).trans msz1) (part_some (eok_name mp2 ⟨_, rfl, part_some (eok_binop (eok_name mp2 (eok_name mgg (bin_add ⟨_, rfl, sa, _, rfl, le1 _ _ hS, by simp [sizeLine]; omega, fun r1 hr1 => ?_⟩) E.k) E.k))⟩ E.k)) E.k)⟩ E.k)) E.i)
    rw [aslice_mid (by simp; omega)]
    have hys : ((S.map AV.int).drop (gs.take i).sum).take gs[i] = ((S.drop (gs.take i).sum).take gs[i]).map .int := by simp [List.map_take, List.map_drop]
    rw [hys]
    have hyl : ((S.drop (gs.take i).sum).take gs[i]).length = gs[i] := by simp; omega
    have hym : ∀ x ∈ (S.drop (gs.take i).sum).take gs[i], 0 ≤ x ∧ x ≤ 6 := fun x hx => hS6 x (List.mem_of_mem_drop (List.mem_of_mem_take hx))
    generalize (S.drop (gs.take i).sum).take gs[i] = ys at hyl hym ⊢
    have hpl1 := hpl.mono (le_upd (o := .lst (ys.map .int)) hr1)
    have hrp1 : r1 ≠ gr0 := by rintro rfl; rw [hpl.at_] at hr1; cases hr1
    refine ⟨_, hpl1.at_, by simp [sizeLine]; omega, rfl, ?_⟩
    rw [show (grp.map (fun p => AV.ref p.1) ++ [AV.ref r1]) = (grp ++ [(r1, ys)]).map fun p => .ref p.1 by simp]
    have hpl2' := hpl1.push (upd_self _ _ _) hpn hrp1
    have le2 : Le H (upd (upd H1 r1 (.lst (ys.map .int))) gr0 (.lst ((grp ++ [(r1, ys)]).map fun p => .ref p.1))) := le_set (le1.trans (le_upd hr1)) hgr0
    refine sok_cons (sok_assign (eok_binop (eok_name mp2 (eok_name mgg (bin_add ?_) E.k) E.k)) (E.st (by decide)) E.k)
    refine sok_nil ⟨le2, (mn _ (by decide)).trans mr1, (mn _ (by decide)).trans msh1, (mn _ (by decide)).trans msz1, (mn _ (by decide)).trans mk1, (mn _ (by decide)).trans msp1, (mn _ (by decide)).trans mg1, ?_, grp ++ [(r1, ys)], hpl2', ?_, by simp [hpl2], ?_⟩
    · have e : ((gs.take (i + 1)).sum : Int) = ((gs.take i).sum : Nat) + (gs[i] : Nat) := by
        rw [take_snoc gs hi, List.sum_append]; simp
      rw [e]
      simp only [updM]; rw [if_pos trivial]
    · intro p hp
      rcases List.mem_append.mp hp with hp | hp
      · exact hpn p hp
      · simp only [List.mem_singleton] at hp; subst hp; exact hrp1
    · intro p hp
      rcases List.mem_append.mp hp with hp | hp
      · exact hpa p hp
      · simp only [List.mem_singleton] at hp; subst hp; exact ⟨by rw [hyl]; omega, by rw [hyl]; omega, hym⟩
  · rintro m1 H1 ⟨le1, mr1, msh1, msz1, mk1, msp1, mg1, mp1, grp, hpl, hpn, hpl2, hpa⟩
    exact ⟨rfl, rfl, le1, mr1, msh1, mk1, msp1, mg1, grp, hpl, by simpa using hpl2, hpa⟩
  rintro m1 H1 ⟨le1, mr1, msh1, mk1, msp1, mg1, grp, hpl, hpl2, hpa⟩
  clear RR1
  let RR2 : LM → AH → Prop := fun m2 H2 => C3 (Le H1 H2) ((∀ z : Str, z ≠ "keys" → z ≠ "rows" → m2 z = m1 z)) (∃ (rk rp : Addr) (kk : List Int) (pl : PL), C7 (m2 "keys" = some (.ref rk)) (m2 "rows" = some (.ref rp)) (H2 rk = some (.lst (kk.map .int))) (kk.length ≤ 2000) (PLOk H2 rp pl) (pl.length = gs.length) ((∀ p ∈ pl, p.2.length ≤ 1000)))
  refine sok_step RR2
    (sok_unpack [("keys", _), ("rows", _)] hA'.h (eok_fn P gc P.lCut (esok_cons (eok_name mr1 (esok_cons (eok_comp (cl := []) hA'.h (clos0 rfl E.c) (eok_name mg1 ⟨grp.map fun p => .ref p.1, (fun _ => true), (fun z => match z with | .ref x => .int ((intsOf H1 x).sum + (intsOf H1 x).length - 1) | z => z), by simp only [iterItems, hpl.at_], by simp [sizeLine]; omega, fun C D zs y hD hy => tests_nil ⟨rfl, rfl⟩, fun C D zs y hD hy _ => ?_, fun D hD => esok_nil ?_⟩ E.k))) E.k))) rfl (by
      intro x hx
      simp only [List.map_cons, List.map_nil, List.mem_cons, List.not_mem_nil, or_false] at hx
      rcases hx with rfl | rfl
      · exact E.st (by decide)
      · exact E.st (by decide)) E.k) ?_
  · obtain ⟨p, hp, rfl⟩ := List.mem_map.mp hy
    obtain ⟨hp1, hp2, hp3⟩ := hpa p hp
    have hat := le_upd (o := .lst zs) hD _ _ (hpl.all p hp)
    refine eok_binop (eok_binop (eok_callB (by exact P.bn (by repeat (first | exact List.Mem.head _ | apply List.Mem.tail)) rfl rfl E.gl E.b) (esok_cons (eok_name (v := .ref p.1) (by simp [updM]) (esok_nil (cok_sum (ns := p.2) hA'.h (.inl ⟨_, rfl, hat⟩) (fun j hj => ?_) (eok_callB (by exact P.bn (by repeat (first | exact List.Mem.head _ | apply List.Mem.tail)) rfl rfl E.gl E.b) (esok_cons (eok_name (v := .ref p.1) (by simp [updM]) (esok_nil (cok_len (n := p.2.length) (by rw [alen_lst hat]; simp) (by omega) (bin_add (eok_int (bin_sub ⟨?_, rfl⟩))))) rfl))))) rfl))))
    · have h1 := hp3 (p.2.getD j 0) (by simp [hj])
      have h2 := sum_bound (B := 6) (ns := p.2.take (j + 1)) fun x hx => hp3 x (List.mem_of_mem_take hx)
      have h3 : (p.2.take (j + 1)).length ≤ 6 := by simp; omega
      unfold InLong
      refine ⟨?_, ?_⟩ <;> omega
    · simp only [intsOf_of (hpl.all p hp)]
  · have e : (((grp.map fun p => AV.ref p.1).filter fun _ => true).map fun z => match z with | .ref x => AV.int ((intsOf H1 x).sum + (intsOf H1 x).length - 1) | z => z) = (grp.map fun p => (intsOf H1 p.1).sum + (intsOf H1 p.1).length - 1).map .int := by
      rw [filter_all, List.map_map, List.map_map]; rfl
    rw [e]
    refine cut_ok P hA' (by omega) (le_upd hD _ _ (le1 _ _ hR)) (upd_self _ _ _) hr (by simp; omega) fun H' rk rp kk pl le' hk' hkl hpl' hpll hpb => ?_
    rw [List.length_map] at hkl hpll
    have hm : grp.length * rw'.length ≤ 2 * 1000 := Nat.mul_le_mul (by omega) hr
    exact ⟨_, rfl, rfl, rfl, (le_upd hD).trans le', fun z h1 h2 => by show updM (updM m1 "keys" (.ref rk)) "rows" (.ref rp) z = m1 z; simp only [updM]; rw [if_neg h2, if_neg h1], rk, rp, kk, pl, rfl, rfl, hk', by omega, hpl', by omega, fun p hp => by have := hpb p hp; omega⟩
  rintro m2 H2 ⟨le2, hm2, rk, rp, kk, pl, mk2, mr2, hk2, hkl, hpl', hpll, hpb⟩
  clear RR2
  have msh2 := (hm2 "shape" (by decide) (by decide)).trans msh1
  have mki2 := (hm2 "kind" (by decide) (by decide)).trans mk1
  have msp2 := (hm2 "spot" (by decide) (by decide)).trans msp1
  have mg2 := (hm2 "groups" (by decide) (by decide)).trans mg1
  have hg2 := hpl.mono le2
  have leH2 := le1.trans le2
  refine sok_cons (sok_assign (eok_list (esok_nil ⟨Nat.le_of_ble_eq_true rfl, fun kl hkl0 => ?_⟩)) (E.st (by decide)) E.k)
  have K0 : KidsAt a H2 (upd H2 kl (.lst [])) kl ((gs.length : Int) - 1) [] := ⟨H2, hkl0, rfl, .refl _, by simp⟩
  have hshl : ∀ H' : AH, alen H' (aInts (gs.map fun n : Nat => (n : Int))) = some gs.length := fun H' => by simp [alen, aInts]
  let RR3 : LM → AH → Prop := fun m3 H3 => C4 (m3 "shape" = some (aInts (gs.map fun n : Nat => (n : Int)))) (m3 "keys" = some (.ref rk)) (m3 "kids" = some (.ref kl)) (∃ lr : List LR, C3 (KidsAt a H2 H3 kl ((gs.length : Int) - 1) lr) (lr.length = gs.length) (∀ p ∈ lr, wt p.1 ≤ 50000))
  let JJ2 : Nat → LM → AH → Prop := fun j m3 H3 => C8 (m3 "shape" = some (aInts (gs.map fun n : Nat => (n : Int)))) (m3 "kind" = some (.int kind)) (m3 "spot" = some (.int spot)) (m3 "groups" = some (.ref gr0)) (m3 "rows" = some (.ref rp)) (m3 "keys" = some (.ref rk)) (m3 "kids" = some (.ref kl)) (∃ lr : List LR, C3 (KidsAt a H2 H3 kl ((gs.length : Int) - 1) lr) (lr.length = j) (∀ p ∈ lr, wt p.1 ≤ 50000))
  refine sok_step RR3
    (sok_for hA'.h (eok_callT gr (esok_cons (eok_callB gl (esok_cons (eok_name mg2 (esok_nil (cok_len (n := grp.length) (by rw [alen_lst (K0.le.1 _ _ hg2.at_)]; simp) (by omega) (esok_nil (cok_range1 (by omega) (by omega) ⟨_, rfl, JJ2, ⟨msh2, mki2, msp2, mg2, mr2, mk2, rfl, [], K0, rfl, by simp⟩, ?_, ?_⟩)))) E.k))))) (E.st (by decide)) E.k) ?_
  · rintro j m3 H3 jv ⟨msh3, mki3, msp3, mg3, mr3, mk3, mkl3, lr, K3, hlr, hw⟩ hy
    obtain ⟨hj, rfl⟩ := rng_get hy
    rw [Int.toNat_natCast] at hj
    refine ⟨rfl, ?_⟩
    have mn : ∀ z : Str, z ≠ "j" → updM m3 "j" (.int j) z = m3 z := fun z hz => by simp only [updM]; rw [if_neg hz]
    have mjj : updM m3 "j" (.int j) "j" = some (.int j) := by simp [updM]
    obtain ⟨u0, u1, u2, hu⟩ := hurt_at kind.toNat (by omega)
    refine sok_cons (sok_assign (eok_item_tup (eok_gname gh P.hurts (eok_int ⟨_, _, _, rfl, rfl, by decide, by decide, rfl, ?_⟩))) (E.st (by decide)) E.k)
    refine sok_cons (sok_if_set (v0 := aInts [0, 0, 0]) (v1 := .tup [.int u0, .int u1, .int u2]) (bv := (j : Int) == spot) (by simp only [updM]; rw [if_pos trivial]) (tok_cmp (eok_name (v := .int j) (by simp only [updM]; rw [if_neg (by decide), if_pos trivial]) (eok_name (v := .int spot) (by simp only [updM]; rw [if_neg (by decide), if_neg (by decide)]; exact msp3) (cmp_eq ⟨_, rfl, rfl, rfl⟩) E.k) E.k)) (fun e => eok_item_tup (eok_gname gh P.hurts (eok_name (v := .int kind) (by simp only [updM]; rw [if_neg (by decide), if_neg (by decide)]; exact mki3) ⟨_, _, _, rfl, rfl, hk0, by omega, hu, rfl, rfl⟩ E.k))) (E.st (by decide)) E.k fun m4 hhu4 hm4 => ?_)
    have mz : ∀ z : Str, z ≠ "hurt" → z ≠ "j" → m4 z = m3 z := fun z h1 h2 => (hm4 z h1).trans (by simp only [updM]; rw [if_neg h1, if_neg h2])
    have mj4 : m4 "j" = some (.int j) := (hm4 _ (by decide)).trans (by simp only [updM]; rw [if_neg (by decide), if_pos trivial])
    obtain ⟨w0, w1, w2, hw4⟩ : ∃ w0 w1 w2, m4 "hurt" = some (.tup [.int w0, .int w1, .int w2]) := by
      by_cases e : ((j : Int) == spot) = true
      · rw [if_pos e] at hhu4; exact ⟨_, _, _, hhu4⟩
      · rw [if_neg e] at hhu4; exact ⟨_, _, _, hhu4⟩
    obtain ⟨H0, hk00, rfl, le0, hl0⟩ := K3
    have hjp : j < pl.length := by omega
    obtain ⟨hp1, hp2, hp3⟩ := hpa grp[j] (List.getElem_mem hj)
    refine sok_cons (sok_expr (eok_append (pl := _) (eok_name ((mz _ (by decide) (by decide)).trans mkl3) ⟨kl, _, rfl, upd_self _ _ _, (eok_frame (Q := fun v H' => ∃ p, v = lAV p ∧ Le H0 H' ∧ Laid a H' ((gs.length : Int) - 1) p ∧ wt p.1 ≤ 50000) hk00 ?_).mono fun v H' hv => ?_⟩ E.k)) E.i)
    · refine eok_fn P gt P.lTwig (esok_cons (eok_item_lst (eok_name ((mz _ (by decide) (by decide)).trans mr3) (eok_name mj4 ⟨rp, _, _, .ref pl[j].1, rfl, rfl, le0 _ _ hpl'.at_, by omega, by omega, by simp [hjp], ?_⟩ E.k) E.k)))
      refine esok_cons (eok_item_lst (eok_name ((mz _ (by decide) (by decide)).trans mg3) (eok_name mj4 ⟨gr0, _, _, .ref grp[j].1, rfl, rfl, le0 _ _ hg2.at_, by omega, by omega, by simp [hj], ?_⟩ E.k) E.k))
      refine esok_cons (eok_name hw4 (esok_cons (eok_binop (eok_callB gl (esok_cons (eok_name ((mz _ (by decide) (by decide)).trans msh3) ?_ E.k))))) E.k)
      refine esok_nil (cok_len (n := gs.length) (hshl _) (by omega) (eok_int (bin_sub (esok_nil ?_))))
      exact twig_ok P hA' (by omega) (le0 _ _ (hpl'.all pl[j] (List.getElem_mem hjp))) (le0 _ _ (hg2.all grp[j] (List.getElem_mem hj))) (hpb _ (List.getElem_mem hjp)) (by omega) hp1 fun H' p le' hp hwp => ⟨p, rfl, le', hp, hwp⟩
    obtain ⟨H0', hk0', rfl, p, rfl, le', hp, hwp⟩ := hv
    refine ⟨_, upd_self _ _ _, by simp [sizeLine]; omega, rfl, ?_⟩
    rw [upd_upd]
    refine sok_nil ⟨(mz _ (by decide) (by decide)).trans msh3, (mz _ (by decide) (by decide)).trans mki3, (mz _ (by decide) (by decide)).trans msp3, (mz _ (by decide) (by decide)).trans mg3, (mz _ (by decide) (by decide)).trans mr3, (mz _ (by decide) (by decide)).trans mk3, (mz _ (by decide) (by decide)).trans mkl3, lr ++ [p], ⟨H0', hk0', by simp, le0.trans le', fun p' hp' => ?_⟩, by simp [hlr], fun p' hp' => ?_⟩
    · rcases List.mem_append.mp hp' with hp' | hp'
      · exact (hl0 p' hp').mono le'
      · simp only [List.mem_singleton] at hp'; subst hp'; exact hp
    · rcases List.mem_append.mp hp' with hp' | hp'
      · exact hw p' hp'
      · simp only [List.mem_singleton] at hp'; subst hp'; exact hwp
  · rintro m3 H3 ⟨msh3, mki3, msp3, mg3, mr3, mk3, mkl3, lr, K3, hlr, hw⟩
    exact ⟨rfl, rfl, msh3, mk3, mkl3, lr, K3, by rw [hlr]; simp [hpl2], hw⟩
  rintro m3 H3 ⟨msh3, mk3, mkl3, lr, K3, hlr, hw⟩
  clear RR3
  refine sok_cons (sok_if_eq (bv := (gs.length : Int) == 1) (tok_cmp (eok_callB gl (esok_cons (eok_name msh3 (esok_nil (cok_len (n := gs.length) (hshl _) (by omega) (eok_int (cmp_eq ⟨_, rfl, rfl, rfl⟩)))) E.k)))) (fun e => ?_) (fun e => sok_nil ?_))
  · have e' : gs.length = 1 := by have : (gs.length : Int) = 1 := by simpa using e
                                  omega
    have h0 : 0 < lr.length := by omega
    refine sok_cons (sok_return (eok_item_lst (eok_name mkl3 (eok_int ⟨kl, _, _, lAV lr[0], rfl, rfl, K3.le.2.1, by decide, by decide, by simp [h0], ?_⟩) E.k)))
    have hl := K3.le.2.2 lr[0] (List.getElem_mem h0)
    rw [e'] at hl
    have hwp := hw lr[0] (List.getElem_mem h0)
    exact h H3 lr[0] (leH2.trans K3.le.1) hl (by omega)
  · have e' : gs.length = 2 := by have : ¬ (gs.length : Int) = 1 := by simpa using e
                                  omega
    have hwL : wtL (lr.map (·.1)) ≤ 2 * 50000 := Nat.le_trans (wtL_le (B := 50000) fun T hT => by obtain ⟨p, hp, rfl⟩ := List.mem_map.mp hT; exact hw p hp) (by rw [List.length_map]; exact Nat.mul_le_mul_right _ (by omega))
    refine sok_cons (sok_return (eok_fn P gy P.lLay (esok_cons (eok_name mk3 (esok_cons (eok_int (esok_cons (eok_name mkl3 (esok_cons (eok_int (esok_nil ?_))) E.k))) ) E.k))))
    have hl := K3.le.2.2
    rw [e'] at hl
    refine lay_ok (lr := lr) P hA' (by omega) (K3.le.1 _ _ hk2) K3.le.2.1 hl (by omega) fun H' p vs le' hp he hv => ?_
    refine h H' p ((leH2.trans K3.le.1).trans le') hp ?_
    rw [he]; simp only [wt]; omega
end
end Mine
namespace Mine
open PySem PySem.W PySem.Calls PyProof.Rows

/-! the plain law -/
noncomputable def bodyF (t : Int) (f : Fact) : Bool := (f.2.1 == f.1) && (decide ((f.1 : Int) ≤ 2 * t - 1) && (f.2.2.1 == 0 || f.2.2.1 == f.1 + 1))
noncomputable def geF (t : Int) (f : Fact) : Bool := decide ((f.1 : Int) ≥ t - 1)
mutual
theorem shp_facts (t : Int) : ∀ (T : Tree) (d : Int), shp t false T = ((factsT d T).all (bodyF t) && (factsT d T).all (geF t))
  | .node ks vs kids, d => by
    simp only [shp, factsT, List.all_cons, shpL_facts t kids (d + 1), nodeOk, bodyF, geF]
    generalize (vs.length == ks.length) = b1
    generalize decide ((ks.length : Int) ≤ 2 * t - 1) = b2
    generalize decide ((ks.length : Int) ≥ t - 1) = b3
    generalize (kids.length == 0 || kids.length == ks.length + 1) = b4
    generalize (factsTL (d + 1) kids).all (bodyF t) = b5
    generalize (factsTL (d + 1) kids).all (geF t) = b6
    cases b1 <;> cases b2 <;> cases b3 <;> cases b4 <;> cases b5 <;> cases b6 <;> rfl
theorem shpL_facts (t : Int) : ∀ (Ts : List Tree) (d : Int), shpL t Ts = ((factsTL d Ts).all (bodyF t) && (factsTL d Ts).all (geF t))
  | [], d => rfl
  | T :: Ts, d => by
    simp only [shpL, factsTL, List.all_append, shp_facts t T d, shpL_facts t Ts d]
    generalize (factsT d T).all (bodyF t) = b1
    generalize (factsT d T).all (geF t) = b2
    generalize (factsTL d Ts).all (bodyF t) = b3
    generalize (factsTL d Ts).all (geF t) = b4
    cases b1 <;> cases b2 <;> cases b3 <;> cases b4 <;> rfl
end
theorem shp_root (t : Int) : ∀ (T : Tree) (d : Int), shp t true T = ((factsT d T).all (bodyF t) && ((factsT d T).drop 1).all (geF t))
  | .node ks vs kids, d => by
    simp only [shp, factsT, List.all_cons, List.drop_succ_cons, List.drop_zero, shpL_facts t kids (d + 1), nodeOk, bodyF]
    generalize (vs.length == ks.length) = b1
    generalize decide ((ks.length : Int) ≤ 2 * t - 1) = b2
    generalize (kids.length == 0 || kids.length == ks.length + 1) = b4
    generalize (factsTL (d + 1) kids).all (bodyF t) = b5
    generalize (factsTL (d + 1) kids).all (geF t) = b6
    cases b1 <;> cases b2 <;> cases b4 <;> cases b5 <;> cases b6 <;> rfl
theorem shp_inner (t : Int) : ∀ (T : Tree) (d : Int) (f : Fact), (factsT d T)[0]? = some f → shp t false T = (shp t true T && geF t f)
  | .node ks vs kids, d, f, h => by
    rw [shp_root t _ d, shp_facts t _ d]
    simp only [factsT, List.getElem?_cons_zero, Option.some.injEq] at h
    subst h
    simp only [factsT, List.all_cons, List.drop_succ_cons, List.drop_zero]
    generalize geF t (ks.length, vs.length, kids.length, d) = b1
    generalize bodyF t (ks.length, vs.length, kids.length, d) = b2
    generalize (factsTL (d + 1) kids).all (bodyF t) = b3
    generalize (factsTL (d + 1) kids).all (geF t) = b4
    cases b1 <;> cases b2 <;> cases b3 <;> cases b4 <;> rfl

mutual
theorem nc_facts : ∀ (T : Tree) (d : Int), nc T = !(factsT d T).any fun f => decide ((f.2.2.1 : Int) > (f.1 : Int) + 1)
  | .node ks vs kids, d => by
    simp only [nc, factsT, List.any_cons, ncL_facts kids (d + 1), Bool.not_or]
    congr 1
    rw [Bool.eq_iff_iff]; simp; omega
theorem ncL_facts : ∀ (Ts : List Tree) (d : Int), ncL Ts = !(factsTL d Ts).any fun f => decide ((f.2.2.1 : Int) > (f.1 : Int) + 1)
  | [], d => rfl
  | T :: Ts, d => by simp only [ncL, factsTL, List.any_append, Bool.not_or, nc_facts T d, ncL_facts Ts d]
end

mutual
theorem leafD_facts : ∀ (T : Tree) (d : Int), leafD d T = ((factsT d T).filter (·.2.2.1 == 0)).map (·.2.2.2)
  | .node ks vs kids, d => by
    simp only [leafD, factsT, List.filter_cons, leafDL_facts kids (d + 1)]
    cases kids <;> simp
theorem leafDL_facts : ∀ (Ts : List Tree) (d : Int), leafDL d Ts = ((factsTL d Ts).filter (·.2.2.1 == 0)).map (·.2.2.2)
  | [], d => rfl
  | T :: Ts, d => by simp only [leafDL, factsTL, List.filter_append, List.map_append, leafD_facts T d, leafDL_facts Ts d]
end
mutual
theorem cnt_facts : ∀ (T : Tree) (d : Int), cnt T = ((factsT d T).map fun f => (f.1 : Int)).sum
  | .node ks vs kids, d => by simp only [cnt, factsT, List.map_cons, List.sum_cons, cntL_facts kids (d + 1)]
theorem cntL_facts : ∀ (Ts : List Tree) (d : Int), cntL Ts = ((factsTL d Ts).map fun f => (f.1 : Int)).sum
  | [], d => rfl
  | T :: Ts, d => by simp only [cntL, factsTL, List.map_append, List.sum_append, cnt_facts T d, cntL_facts Ts d]
end
theorem hgt_leaf : ∀ (T : Tree) (d : Int), (leafD d T)[0]? = some (d + hgt T)
  | .node ks vs [], d => by simp [leafD, leafDL, hgt]
  | .node ks vs (T :: Ts), d => by
    have := hgt_leaf T (d + 1)
    simp only [leafD, leafDL, List.isEmpty_cons, Bool.false_eq_true, if_false, List.nil_append, hgt]
    rw [List.getElem?_append_left]
    · rw [this]; congr 1; omega
    · exact (List.getElem?_eq_some_iff.mp this).1

theorem foldl_max : ∀ (xs : List Int) (x : Int), x ≤ xs.foldl (fun b y => if decide (y > b) = true then y else b) x ∧ (∀ y ∈ xs, y ≤ xs.foldl (fun b y => if decide (y > b) = true then y else b) x) ∧ (xs.foldl (fun b y => if decide (y > b) = true then y else b) x = x ∨ xs.foldl (fun b y => if decide (y > b) = true then y else b) x ∈ xs)
  | [], x => by simp
  | y :: ys, x => by
    simp only [List.foldl_cons, List.mem_cons, forall_eq_or_imp]
    by_cases e : y > x
    · simp only [e, decide_true, if_true]
      obtain ⟨h1, h2, h3⟩ := foldl_max ys y
      refine ⟨by omega, ⟨h1, h2⟩, ?_⟩
      rcases h3 with h3 | h3
      · exact .inr (.inl h3)
      · exact .inr (.inr h3)
    · simp only [e, decide_false, Bool.false_eq_true, if_false]
      obtain ⟨h1, h2, h3⟩ := foldl_max ys x
      refine ⟨h1, ⟨by omega, h2⟩, ?_⟩
      rcases h3 with h3 | h3
      · exact .inl h3
      · exact .inr (.inr h3)
theorem foldl_min : ∀ (xs : List Int) (x : Int), xs.foldl (fun b y => if decide (y < b) = true then y else b) x ≤ x ∧ (∀ y ∈ xs, xs.foldl (fun b y => if decide (y < b) = true then y else b) x ≤ y) ∧ (xs.foldl (fun b y => if decide (y < b) = true then y else b) x = x ∨ xs.foldl (fun b y => if decide (y < b) = true then y else b) x ∈ xs)
  | [], x => by simp
  | y :: ys, x => by
    simp only [List.foldl_cons, List.mem_cons, forall_eq_or_imp]
    by_cases e : y < x
    · simp only [e, decide_true, if_true]
      obtain ⟨h1, h2, h3⟩ := foldl_min ys y
      refine ⟨by omega, ⟨h1, h2⟩, ?_⟩
      rcases h3 with h3 | h3
      · exact .inr (.inl h3)
      · exact .inr (.inr h3)
    · simp only [e, decide_false, Bool.false_eq_true, if_false]
      obtain ⟨h1, h2, h3⟩ := foldl_min ys x
      refine ⟨h1, ⟨by omega, h2⟩, ?_⟩
      rcases h3 with h3 | h3
      · exact .inl h3
      · exact .inr (.inr h3)
theorem levOf_max {D : List Int} {d0 : Int} (h0 : D[0]? = some d0) : levOf D = if (bestOf (fun x y => decide (x > y)) D != bestOf (fun x y => decide (x < y)) D) = true then -1 else d0 := by
  cases D with
  | nil => simp at h0
  | cons d ds =>
    simp at h0; subst h0
    simp only [levOf, bestOf]
    have key : ∀ M mm : Int, d ≤ M → (∀ y ∈ ds, y ≤ M) → (M = d ∨ M ∈ ds) → mm ≤ d → (∀ y ∈ ds, mm ≤ y) → (mm = d ∨ mm ∈ ds) → (if ds.all (· == d) = true then d else -1) = if (M != mm) = true then -1 else d := ?_
    · exact key _ _ (foldl_max ds d).1 (foldl_max ds d).2.1 (foldl_max ds d).2.2 (foldl_min ds d).1 (foldl_min ds d).2.1 (foldl_min ds d).2.2
    intro M mm a1 a2 a3 b1 b2 b3
    by_cases e : M = mm
    · have : ds.all (· == d) = true := by
        rw [List.all_eq_true]
        intro x hx
        have h1 := a2 x hx
        have h2 := b2 x hx
        simp; omega
      rw [if_pos this, if_neg (by simpa using e)]
    · have : ¬ (ds.all (· == d) = true) := by
        rw [List.all_eq_true]
        intro hall
        have hall : ∀ x ∈ ds, x = d := fun x hx => by simpa using hall x hx
        rcases a3 with a3 | a3 <;> rcases b3 with b3 | b3
        · omega
        · have := hall _ b3; omega
        · have := hall _ a3; omega
        · have := hall _ a3; have := hall _ b3; omega
      rw [if_neg this, if_pos (by simpa using e)]

/-! keys in order -/
noncomputable def ordB (xs : List Int) : Bool := (List.range (xs.length - 1)).all fun i => decide (xs.getD i 0 < xs.getD (i + 1) 0)
structure Bd (lo hi : Option Int) (xs : List Int) : Prop where
  pw : xs.Pairwise (· < ·)
  l : ∀ x ∈ xs, loOk lo x = true
  h : ∀ x ∈ xs, hiOk hi x = true
theorem adj {xs : List Int} : (∀ i, i + 1 < xs.length → xs.getD i 0 < xs.getD (i + 1) 0) ↔ xs.Pairwise (· < ·) := by
  rw [List.pairwise_iff_getElem]
  constructor
  · intro h
    have key : ∀ n i (hi : i < xs.length) (hj : i + n + 1 < xs.length), xs[i] < xs[i + n + 1] := by
      intro n
      induction n with
      | zero =>
        intro i hi hj
        have := h i hj
        simpa [hi, hj] using this
      | succ n ih =>
        intro i hi hj
        have h1 := ih i hi (by omega)
        have h2 := h (i + n + 1) (by omega)
        have h3 : i + n + 1 < xs.length := by omega
        have h4 : i + n + 1 + 1 < xs.length := by omega
        simp [h3, h4] at h2
        have : xs[i + (n + 1) + 1] = xs[i + n + 1 + 1] := rfl
        omega
    intro i j hi hj hij
    obtain ⟨n, rfl⟩ : ∃ n, j = i + n + 1 := ⟨j - i - 1, by omega⟩
    exact key n i hi hj
  · intro h i hi
    have := h i (i + 1) (by omega) hi (by omega)
    have h1 : i < xs.length := by omega
    simpa [h1, hi] using this
theorem ordB_pw {xs : List Int} : ordB xs = true ↔ xs.Pairwise (· < ·) := by
  rw [← adj]
  simp only [ordB, List.all_eq_true, List.mem_range, decide_eq_true_eq]
  exact ⟨fun h i hi => h i (by omega), fun h i hi => h i (by omega)⟩
theorem rowOk_bd {lo hi : Option Int} {ks : List Int} : rowOk lo hi ks = true ↔ Bd lo hi ks := by
  simp only [rowOk, List.all_eq_true, List.mem_range, rowAt, Bool.and_eq_true, Bool.or_eq_true, beq_iff_eq, decide_eq_true_eq]
  constructor
  · intro h
    refine ⟨adj.mp fun i hi => ?_, fun x hx => ?_, fun x hx => ?_⟩
    · rcases (h (i + 1) hi).2 with e | e
      · omega
      · simpa using e
    · obtain ⟨i, hi, rfl⟩ := List.getElem_of_mem hx
      have := (h i hi).1.1
      simpa [hi] using this
    · obtain ⟨i, hi, rfl⟩ := List.getElem_of_mem hx
      have := (h i hi).1.2
      simpa [hi] using this
  · intro h i hi
    have hm : ks.getD i 0 ∈ ks := by simp [hi]
    refine ⟨⟨h.l _ hm, h.h _ hm⟩, ?_⟩
    cases i with
    | zero => exact .inl rfl
    | succ i => exact .inr (by simpa using adj.mpr h.pw i hi)

theorem loOk_trans {lo : Option Int} {a b : Int} (h : loOk lo a = true) (hab : a < b) : loOk lo b = true := by
  cases lo <;> simp [loOk] at *; omega
theorem hiOk_trans {hi : Option Int} {a b : Int} (h : hiOk hi b = true) (hab : a < b) : hiOk hi a = true := by
  cases hi <;> simp [hiOk] at *; omega
theorem bd_split {lo hi : Option Int} {X R : List Int} {k : Int} : Bd lo hi (X ++ k :: R) ↔ (Bd lo (some k) X ∧ loOk lo k = true ∧ hiOk hi k = true ∧ Bd (some k) hi R) := by
  constructor
  · rintro ⟨hp, hl, hh⟩
    rw [List.pairwise_append, List.pairwise_cons] at hp
    obtain ⟨h1, ⟨h2, h3⟩, h4⟩ := hp
    exact ⟨⟨h1, fun x hx => hl x (by simp [hx]), fun x hx => by simpa [hiOk] using h4 x hx k (by simp)⟩, hl k (by simp), hh k (by simp), h3, fun x hx => by simpa [loOk] using h2 x hx, fun x hx => hh x (by simp [hx])⟩
  · rintro ⟨⟨h1, h2, h3⟩, h4, h5, ⟨h6, h7, h8⟩⟩
    have h3' : ∀ x ∈ X, x < k := fun x hx => by simpa [hiOk] using h3 x hx
    have h7' : ∀ x ∈ R, k < x := fun x hx => by simpa [loOk] using h7 x hx
    refine ⟨?_, fun x hx => ?_, fun x hx => ?_⟩
    · rw [List.pairwise_append, List.pairwise_cons]
      refine ⟨h1, ⟨h7', h6⟩, fun x hx y hy => ?_⟩
      have := h3' x hx
      rcases List.mem_cons.mp hy with rfl | hy
      · exact this
      · have := h7' y hy; omega
    · rcases List.mem_append.mp hx with hx | hx
      · exact h2 x hx
      · rcases List.mem_cons.mp hx with rfl | hx
        · exact h4
        · exact loOk_trans h4 (h7' x hx)
    · rcases List.mem_append.mp hx with hx | hx
      · exact hiOk_trans h5 (h3' x hx)
      · rcases List.mem_cons.mp hx with rfl | hx
        · exact h5
        · exact h8 x hx
theorem bd_nil {lo hi : Option Int} : Bd lo hi [] := ⟨.nil, by simp, by simp⟩

mutual
theorem keysB_bd : ∀ {T : Tree} {lo hi : Option Int}, nc T = true → (keysB lo hi T = true ↔ Bd lo hi (seqT T))
  | .node ks vs kids, lo, hi, h => by
    simp only [nc, Bool.and_eq_true, decide_eq_true_eq] at h
    simp only [keysB, Bool.and_eq_true, seqT, rowOk_bd]
    exact kidsB_bd h.2 h.1
theorem kidsB_bd : ∀ {Ts : List Tree} {lo hi : Option Int} {ks : List Int}, ncL Ts = true → Ts.length ≤ ks.length + 1 → ((Bd lo hi ks ∧ kidsB lo hi ks Ts = true) ↔ Bd lo hi (seqK ks Ts))
  | [], lo, hi, ks, _, _ => by simp [kidsB, seqK]
  | T :: Ts, lo, hi, [], hn, hl => by
    have : Ts = [] := by simpa using hl
    subst this
    simp only [ncL, Bool.and_eq_true] at hn
    simp only [kidsB, hdOr, Bool.and_true, seqK, List.take_nil, List.drop_nil, List.append_nil]
    rw [keysB_bd hn.1]
    exact ⟨fun h => h.2, fun h => ⟨bd_nil, h⟩⟩
  | T :: Ts, lo, hi, k :: ks, hn, hl => by
    simp only [ncL, Bool.and_eq_true] at hn
    have ih := kidsB_bd (Ts := Ts) (lo := some k) (hi := hi) (ks := ks) hn.2 (by simp at hl; omega)
    simp only [kidsB, hdOr, List.tail_cons, Bool.and_eq_true, seqK, List.take_succ_cons, List.take_zero, List.drop_succ_cons, List.drop_zero, List.cons_append, List.nil_append]
    rw [keysB_bd hn.1, bd_split, ← ih]
    have e := bd_split (lo := lo) (hi := hi) (X := []) (R := ks) (k := k)
    rw [List.nil_append] at e
    rw [e]
    constructor
    · rintro ⟨⟨_, h1, h2, h3⟩, h4, h5⟩; exact ⟨h4, h1, h2, h3, h5⟩
    · rintro ⟨h4, h1, h2, h3, h5⟩; exact ⟨⟨bd_nil, h1, h2, h3⟩, h4, h5⟩
end
theorem keysB_eq {T : Tree} {lo hi : Option Int} (h : nc T = true) : keysB lo hi T = (ordB (seqT T) && ((seqT T).all (loOk lo) && (seqT T).all (hiOk hi))) := by
  rw [Bool.eq_iff_iff, keysB_bd h]
  simp only [Bool.and_eq_true, ordB_pw, List.all_eq_true]
  exact ⟨fun ⟨a, b, c⟩ => ⟨a, b, c⟩, fun ⟨a, b, c⟩ => ⟨a, b, c⟩⟩
theorem keysB_none {T : Tree} (h : nc T = true) : keysB none none T = ordB (seqT T) := by
  rw [keysB_eq h]
  have h1 : (seqT T).all (loOk none) = true := by simp [loOk]
  have h2 : (seqT T).all (hiOk none) = true := by simp [hiOk]
  rw [h1, h2]; simp
/-- check -/
theorem chk_law {t n : Int} {T : Tree} : chkB t n T = ((shp t true T && (ordB (seqT T) && decide (levOf (leafD 0 T) ≥ 0))) && (n == cnt T)) := by
  unfold chkB
  cases e : shp t true T with
  | false => simp
  | true =>
    rw [keysB_none (shp_nc e)]
    have : (cnt T == n) = (n == cnt T) := by rw [Bool.eq_iff_iff, beq_iff_eq, beq_iff_eq]; exact eq_comm
    rw [this]; simp [Bool.and_assoc]
end Mine
namespace Mine
open PySem PySem.W PySem.Calls PyProof.Rows

noncomputable def enc : List (Nat × Nat × Addr) → List Value
  | [] => []
  | (l, co, a) :: r => rawInt l :: rawInt co :: .ref a :: enc r
theorem enc_append : ∀ xs ys, enc (xs ++ ys) = enc xs ++ enc ys
  | [], _ => rfl
  | (l, co, a) :: r, ys => by simp [enc, enc_append r ys]
theorem enc_none {pos : Pos} : ∀ {ts : List (Nat × Nat × Addr)}, (∀ t ∈ ts, t.1 < pos.line) → codeAmong pos (enc ts) = none
  | [], _ => rfl
  | (l, co, a) :: r, h => by
    have h1 := h (l, co, a) (by simp)
    have : ((l : Int) == (pos.line : Int)) = false := by simp; simp at h1; omega
    show codeAmong pos (.int l 0 :: .int co 0 :: .ref a :: enc r) = none
    unfold codeAmong
    rw [this]
    exact enc_none fun t ht => h t (by simp [ht])

/-- a heap with the law's table -/
noncomputable def Wt (h₁ : Heap) (cc pt : Addr) (H H0 : AH) (n : Nat) : Prop := ∃ gh ps ts, H0 pt = none ∧ H = upd H0 pt (.tab gh ps) ∧ Based h₁ gh cc pt ps ∧ ps.toList = enc ts ∧ ∀ t ∈ ts, t.1 ≤ n
theorem Wt.le {h₁ : Heap} {cc pt : Addr} {H H0 : AH} {n : Nat} (w : Wt h₁ cc pt H H0 n) : Le H0 H := by
  obtain ⟨gh, ps, ts, h1, rfl, _⟩ := w; exact le_upd h1

noncomputable def cellsL (L : Addr) : List (Str × Addr) := [("t", L + 4), ("seq", L + 3), ("low", L + 2), ("high", L + 1)]
noncomputable def clFold (cells : List (Str × Addr)) : List (Str × NameKind) → List (Str × Addr) → Option (List (Str × Addr))
  | [], acc => some acc
  | (n, k) :: r, acc => if k == .free then (match cells.lookup n with | some c => clFold cells r ((n, c) :: acc) | none => none) else clFold cells r acc
theorem clos_fold {scope : Scope} {env : Env} {cl : List (Str × Addr)} (h : clFold env.cells scope.names [] = some cl) : closureFor scope env = pure cl := by
  have key : ∀ (names : List (Str × NameKind)) (acc cl : List (Str × Addr)), clFold env.cells names acc = some cl → (do
      let mut cs := acc
      for (name, kind) in names do
        if kind == .free then cs := (name, ← cellOf env name) :: cs
      return cs : Sem (List (Str × Addr))) = pure cl := by
    intro names
    induction names with
    | nil => intro acc cl h; simp [clFold] at h; subst h; rfl
    | cons p r ih =>
      obtain ⟨n, k⟩ := p
      intro acc cl h
      unfold clFold at h
      by_cases hk : (k == NameKind.free) = true
      · rw [if_pos hk] at h
        cases hl : env.cells.lookup n with
        | none => rw [hl] at h; simp at h
        | some c =>
          rw [hl] at h
          have := ih _ _ h
          simp only [List.forIn_cons, hk, if_true, cellOf, hl]
          exact this
      · rw [if_neg hk] at h
        have := ih _ _ h
        simp only [List.forIn_cons, hk]
        exact this
  exact key scope.names [] cl h

/-- the law's frame -/
structure LawE (c : Cx) (env : Env) (L cc : Addr) (ls gs : List Str) : Prop where
  k : env.scope.kind = .function
  l : ∀ x ∈ ls, env.kindOf x = some .local
  g : ∀ x ∈ gs, env.kindOf x = some .globalImplicit
  gl : env.globals = mainGlobals
  b : env.builtins = builtinsNs
  i : interactive env = false
  ce : env.cells = cellsL L
  ck : ∀ x : Str, (x = "t" ∨ x = "seq" ∨ x = "low" ∨ x = "high") → env.kindOf x = some .cell
  code : env.code = .ref cc
  above : c.b.objs.size ≤ env.locals

theorem cellsL_get {L cc : Addr} {y : Str} (h : (cellsL L).lookup y = some cc) : (y = "t" ∧ cc = L + 4) ∨ (y = "seq" ∧ cc = L + 3) ∨ (y = "low" ∧ cc = L + 2) ∨ (y = "high" ∧ cc = L + 1) := by
  unfold cellsL at h
  simp only [List.lookup_cons, List.lookup_nil] at h
  cases e1 : y == ("t" : Str) with
  | true => rw [e1] at h; simp at h; exact .inl ⟨by simpa using e1, h.symm⟩
  | false =>
    rw [e1] at h
    cases e2 : y == ("seq" : Str) with
    | true => rw [e2] at h; simp at h; exact .inr (.inl ⟨by simpa using e2, h.symm⟩)
    | false =>
      rw [e2] at h
      cases e3 : y == ("low" : Str) with
      | true => rw [e3] at h; simp at h; exact .inr (.inr (.inl ⟨by simpa using e3, h.symm⟩))
      | false =>
        rw [e3] at h
        cases e4 : y == ("high" : Str) with
        | true => rw [e4] at h; simp at h; exact .inr (.inr (.inr ⟨by simpa using e4, h.symm⟩))
        | false => rw [e4] at h; simp at h

section
variable {c : Cx} {A : Around} {env : Env} {m : LM} {H : AH} {Q : AV → AH → Prop} {K : Frag} {a : Ads} {ls gs : List Str} {L cc pt : Addr} {h₁ : Heap} {H0 : AH} {n : Nat}

theorem LawE.st (E : LawE c env L cc ls gs) {x : Str} (hx : x ∈ ls) : Stores env x := .inl (E.l x hx)
theorem LawE.stc (E : LawE c env L cc ls gs) {x : Str} {a : Addr} (hx : (cellsL L).lookup x = some a) : Stores env x := by
  have hx' := cellsL_get hx
  refine .inr ⟨E.ck x (by rcases hx' with h | h | h | h <;> simp [h.1]), a, by rw [E.ce]; exact hx, fun y hy h => ?_⟩
  rw [E.ce] at h
  have hy' := cellsL_get h
  have nn : ∀ {i j : Nat}, i ≠ j → L + i ≠ L + j := fun {i j} h e => h (Nat.add_left_cancel e)
  rcases hx' with ⟨rfl, rfl⟩ | ⟨rfl, rfl⟩ | ⟨rfl, rfl⟩ | ⟨rfl, rfl⟩ <;> rcases hy' with ⟨rfl, e⟩ | ⟨rfl, e⟩ | ⟨rfl, e⟩ | ⟨rfl, e⟩ <;> first | exact hy rfl | exact nn (by decide) e
theorem LawE.bn (E : LawE c env L cc ls gs) (P : Prog c K a) {x : Str} {v : Value} (hx : (x, v) ∈ btab) (hg : x ∈ gs) (hd : (x == ("__debug__" : Str)) = false := by decide) : GName c env x v := P.bn hx E.k (E.g x hg) E.gl E.b hd
theorem LawE.gn (E : LawE c env L cc ls gs) (P : Prog c K a) {x : Str} {v : Value} (hx : (x, v) ∈ gtab a) (hg : x ∈ gs) (hd : (x == ("__debug__" : Str)) = false := by decide) : GName c env x v := P.gn hx E.k (E.g x hg) E.gl hd
theorem LawE.cells (E : LawE c env L cc ls gs) : ∀ y a, env.cells.lookup y = some a → env.kindOf y ≠ some .local := fun y a h => by
  rw [E.ce] at h
  rw [E.ck y (by rcases cellsL_get h with h | h | h | h <;> simp [h.1])]
  simp

theorem LawE.gc0 (E : LawE c env L cc ls gs) {scope : Scope} {x : Str} (hcl : clFold (cellsL L) scope.names [] = some [] := by rfl) (h1 : ∀ y ∈ scope.names, y.2 ≠ .cell := by decide) (h2 : scope.kind = .function := by rfl) (h3 : scope.isCoroutine = false := by rfl) (h4 : scope.names.lookup (".0" : Str) = some NameKind.local := by rfl) (h5 : scope.names.lookup x = some .local := by rfl) : GClos env scope [] x :=
  ⟨clos_fold (by rw [E.ce]; exact hcl), h1, h2, h3, h4, h5, by simp, by simp, E.cells⟩
theorem LawE.gc1 (E : LawE c env L cc ls gs) {scope : Scope} {x z : Str} {q : Addr} (hz : (cellsL L).lookup z = some q) (hcl : clFold (cellsL L) scope.names [] = some [(z, q)] := by rfl) (h0 : scope.names.lookup z = some .free := by rfl) (h1 : ∀ y ∈ scope.names, y.2 ≠ .cell := by decide) (h2 : scope.kind = .function := by rfl) (h3 : scope.isCoroutine = false := by rfl) (h4 : scope.names.lookup (".0" : Str) = some NameKind.local := by rfl) (h5 : scope.names.lookup x = some .local := by rfl) : GClos env scope [(z, q)] x :=
  ⟨clos_fold (by rw [E.ce]; exact hcl), h1, h2, h3, h4, h5, fun y a h => by
      simp only [List.mem_singleton, Prod.mk.injEq] at h
      obtain ⟨rfl, rfl⟩ := h
      rw [E.ce]; exact hz, fun y a h => by
      obtain ⟨rfl, rfl⟩ := lookup_one h
      exact .inr h0, E.cells⟩
theorem LawE.cl0 (E : LawE c env L cc ls gs) {scope : Scope} {x : Str} (hcl : clFold (cellsL L) scope.names [] = some [] := by rfl) (h1 : ∀ y ∈ scope.names, y.2 ≠ .cell := by decide) (h2 : scope.kind = .function := by rfl) (h3 : ∀ y ∈ scope.names, y.2 = .local → scope.names.lookup y.1 = some .local := by decide) (h4 : scope.names.lookup x = some .local := by rfl) : Clos env scope [] x :=
  ⟨clos_fold (by rw [E.ce]; exact hcl), h1, h2, h3, h4, fun _ _ e => by simp at e, fun _ _ e => by simp at e, rfl, E.cells⟩

theorem GName.up {c' : Cx} (k : ∀ a o, c.b.get? a = some o → c'.b.get? a = some o) {x : Str} {v : Value} (g : GName c env x v) : GName c' env x v := by
  obtain ⟨g1, g2, g3, mg, h1, h2⟩ := g
  refine ⟨g1, g2, g3, mg, h1.keeps k, ?_⟩
  rcases h2 with h2 | ⟨h2, mb, h3, h4⟩
  · exact .inl h2
  · exact .inr ⟨h2, mb, h3.keeps k, h4⟩

theorem eok_and_cons {x y : Expr} {r : List Expr} {pos : Pos} (h : EOk c A env x m H fun v H₁ => ∃ b, v = .bool b ∧ if b then EOk c A env (.BoolOp .And (y :: r) pos) m H₁ Q else Q (.bool false) H₁) : EOk c A env (.BoolOp .And (x :: y :: r) pos) m H Q := by
  intro s G F
  refine BoolOp_and (bind2 (h s G F) fun v s₁ ⟨av, H₁, r₁, G₁, t₁, b, e, h₁⟩ => ?_)
  subst e
  simp only [VR] at r₁
  subst r₁
  refine wpAny_truthy_bool ?_
  cases b with
  | false => exact ⟨.bool false, H₁, by simp [VR], G₁, t₁, by simpa using h₁⟩
  | true =>
    simp only [if_true] at h₁ ⊢
    exact bind2 (h₁ s₁ G₁ (F.tr G t₁)) fun b s₂ e => .after t₁ e

theorem eok_lift {e : Expr} (W : Wt h₁ cc pt H H0 n) (h : EOk c A env e m H0 fun v H0' => ∀ H', Wt h₁ cc pt H' H0' n → Q v H') : EOk c A env e m H Q := by
  obtain ⟨gh, ps, ts, h1, rfl, h2, h3, h4⟩ := W
  refine (eok_frame h1 h).mono ?_
  rintro v H' ⟨H0', e1, rfl, hq⟩
  exact hq _ ⟨gh, ps, ts, e1, rfl, h2, h3, h4⟩

theorem sok_lift {t : Sem Flow} {Q : AFl → LM → AH → Prop} (W : Wt h₁ cc pt H H0 n) (h : SOk c A env t m H0 fun fl m' H0' => ∀ H', Wt h₁ cc pt H' H0' n → Q fl m' H') : SOk c A env t m H Q := by
  obtain ⟨gh, ps, ts, h0, rfl, h2, h3, h4⟩ := W
  intro s G F
  have hno : ∀ x, upd H0 pt (.tab gh ps) x = none → H0 x = none ∧ x ≠ pt := fun x e => by
    by_cases hx : x = pt
    · subst hx; rw [upd_self] at e; cases e
    · rw [upd_ne hx] at e; exact ⟨e, hx⟩
  have G0 : GH c H0 s := G.mono (le_upd h0)
  have F0 : GF c env m H0 s := ⟨(hno _ F.own).1, F.new, fun x q e => ⟨(hno _ (F.cells x q e).1).1, (F.cells x q e).2⟩, F.ns⟩
  refine bind2 (h s G0 F0) fun f s₁ ⟨fl, m', H0', r, G', F', t', q⟩ => ?_
  have hk := G.objs pt _ (upd_self _ _ _)
  obtain ⟨ob, hob, hcl, hcell⟩ := hk.1.there
  have hn := t'.dom pt ob h0 hob
  have hpl : pt ≠ env.locals := by rintro rfl; have := F.own; rw [upd_self] at this; cases this
  have hpc : ∀ x, env.cells.lookup x ≠ some pt := fun x e => by have := (F.cells x pt e).1; rw [upd_self] at this; cases this
  have ke : ∀ o', s.heap.get? pt = some o' → s₁.heap.get? pt = some o' := fun o' e' => t'.keep pt o' h0 hpl hpc e'
  refine ⟨fl, m', upd H0' pt (.tab gh ps), r, ⟨fun x ox e => ?_, G'.keep, G'.bare⟩, ⟨?_, F'.new, fun x q e => ⟨?_, (F'.cells x q e).2⟩, F'.ns⟩, ⟨fun x ox e e1 e2 g => t'.keep x ox (hno x e).1 e1 e2 g, fun x ox e g => t'.live x ox (hno x e).1 g, fun x ox e g => ?_, t'.os⟩, q _ ⟨gh, ps, ts, hn, rfl, h2, h3, h4⟩⟩
  · by_cases hx : x = pt
    · subst hx; rw [upd_self] at e; cases e
      exact ⟨⟨ke _ hk.1.1, hk.1.2⟩, hk.2⟩
    · rw [upd_ne hx] at e; exact G'.objs x ox e
  · rw [upd_ne hpl.symm]; exact F'.own
  · rw [upd_ne (by rintro rfl; exact hpc x e)]; exact (F'.cells x q e).1
  · rw [upd_ne (hno x e).2]; exact t'.dom x ox (hno x e).1 g

/-- one statement that leaves the table -/
theorem sok_blk {st : Stmt} {rest : List Stmt} {Q : AFl → LM → AH → Prop} (R : LM → AH → Prop) (W : Wt h₁ cc pt H H0 n) (h1 : SOk c A env (exec st env) m H0 fun fl m1 H1 => fl = .next ∧ R m1 H1) (h2 : ∀ m1 H1 H1', R m1 H1 → Wt h₁ cc pt H1' H1 n → SOk c A env (execs rest env) m1 H1' Q) : SOk c A env (execs (st :: rest) env) m H Q :=
  sok_cons (sok_lift W (h1.mono fun fl m1 H1 ⟨e, r⟩ H1' W' => by subst e; exact h2 m1 H1 H1' r W'))

theorem iter_tab {H1 : AH} {v : AV} {xs : List AV} {o : AO} (hp : H1 pt = none) (h : iterItems H1 v = some xs) : iterItems (upd H1 pt o) v = some xs := by
  cases v with
  | ref x =>
    simp only [iterItems] at h ⊢
    by_cases hx : x = pt
    · subst hx; rw [hp] at h; simp at h
    · rw [upd_ne hx]; exact h
  | tup ys => exact h
  | rng lo n st => exact h
  | _ => simp [iterItems] at h

theorem mb1 {x : Str} {y : AV} {cl : List (Str × Addr)} {m : LM} {H1 : AH} : ∀ (z : Str) (w : AV), (if z = x then some y else none) = some w → (z = x ∧ w = y) ∨ (z ≠ x ∧ ∃ cc v, cl.lookup z = some cc ∧ m z = some v ∧ Frz H1 v w) := fun z w e => by
  by_cases hz : z = x
  · rw [if_pos hz] at e; exact .inl ⟨hz, (Option.some.inj e).symm⟩
  · rw [if_neg hz] at e; cases e
theorem mb2 {x x2 : Str} {y w2 : AV} {cl : List (Str × Addr)} {m : LM} {H1 : AH} {q : Addr} {v2 : AV} (h1 : cl.lookup x2 = some q) (h2 : m x2 = some v2) (h3 : Frz H1 v2 w2) : ∀ (z : Str) (w : AV), (if z = x then some y else if z = x2 then some w2 else none) = some w → (z = x ∧ w = y) ∨ (z ≠ x ∧ ∃ cc v, cl.lookup z = some cc ∧ m z = some v ∧ Frz H1 v w) := fun z w e => by
  by_cases hz : z = x
  · rw [if_pos hz] at e; exact .inl ⟨hz, (Option.some.inj e).symm⟩
  · rw [if_neg hz] at e
    by_cases hz2 : z = x2
    · rw [if_pos hz2] at e; subst hz2; exact .inr ⟨hz, q, v2, h1, h2, (Option.some.inj e) ▸ h3⟩
    · rw [if_neg hz2] at e; cases e

/-- what a generator expression's element needs -/
noncomputable abbrev EltOk (c : Cx) (A : Around) (env : Env) (m : LM) (elt : Expr) (x : Str) (scope : Scope) (cl : List (Str × Addr)) (H1 : AH) (xs : List AV) (q : AV → Bool) : Prop :=
  ∀ y ∈ xs, ∃ mb : LM, (∀ z w, mb z = some w → (z = x ∧ w = y) ∨ (z ≠ x ∧ ∃ cc v, cl.lookup z = some cc ∧ m z = some v ∧ Frz H1 v w)) ∧
    ∀ (C : Addr) (code : Value) (A' : Around) (c' : Cx), A'.handled = none → A'.depth ≤ A.depth + 1 → A'.units ≤ A.units + 8 → c'.prog = c.prog → c'.w = c.w → (∀ a o, c.b.get? a = some o → c'.b.get? a = some o) →
      EOk c' A' (genEnv scope cl C code builtinsNs env) elt mb noH fun r H' => r = .bool (q y) ∧ H' = noH

theorem EltOk.tab {elt : Expr} {x : Str} {scope : Scope} {cl : List (Str × Addr)} {H1 : AH} {xs : List AV} {q : AV → Bool} {o : AO} (hp : H1 pt = none) (h : EltOk c A env m elt x scope cl H1 xs q) : EltOk c A env m elt x scope cl (upd H1 pt o) xs q := fun y hy => by
  obtain ⟨mb, h1, h2⟩ := h y hy
  refine ⟨mb, fun z w e => ?_, h2⟩
  rcases h1 z w e with h | ⟨h3, q, v, h4, h5, h6⟩
  · exact .inl h
  · refine .inr ⟨h3, q, v, h4, h5, ?_⟩
    rcases h6 with h6 | ⟨r, ns, rfl, h7, h8⟩
    · exact .inl h6
    · exact .inr ⟨r, ns, rfl, by rw [upd_ne (by rintro rfl; rw [hp] at h7; cases h7)]; exact h7, h8⟩

variable {bm : Addr} {ob : Obj} {mg : Str → Option Value}
theorem law_all {iter elt : Expr} {x : Str} {p pos px gpos : Pos} {scope : Scope} {cl : List (Str × Addr)} (hgp : ∀ g d, c.gp g d ↔ AllBare g) (hA : AOk k A) (hk : k < 90) (P : Prog c K a) (E : LawE c env L cc ls gs) (hM : BMod c.b mainGlobals mg bm ob) (ha : ("all" : Str) ∈ gs) (W : Wt h₁ cc pt H H0 n) (hn : n < gpos.line) (G : GClos env scope cl x)
    (h : EOk c A env iter m H0 fun v H1 => ∃ xs q, iterItems H1 v = some xs ∧ ((∃ a, v = .ref a) ∨ ∃ lo n st, v = .rng lo n st) ∧ EltOk c A env m elt x scope cl H1 xs q ∧ ∀ H', Wt h₁ cc pt H' H1 gpos.line → Q (.bool (xs.all q)) H')
    (hs : ∀ x, genFold iter env x = pure x := by intro _; rfl) : EOk c A env (.Call (.Name "all" p) [.GeneratorExp elt [⟨.Name x px, iter, [], 0⟩] scope gpos] [] pos) m H Q := by
  obtain ⟨gh, ps, ts, h0, rfl, h2, h3, h4⟩ := W
  refine eok_all hgp hA.h (by have := hA.d; simp [recursionLimit]; omega) (E.bn P (by repeat (first | exact List.Mem.head _ | apply List.Mem.tail)) ha) G E.code (by rw [E.gl]; exact hM) P.nolimit E.above (upd_self _ _ _) h2 (by rw [h3]; exact enc_none fun t ht => Nat.lt_of_le_of_lt (h4 t ht) hn) ((eok_frame h0 h).mono ?_) hs
  rintro v H' ⟨H1, e1, rfl, xs, q, e2, e3, e4, e5⟩
  refine ⟨xs, q, ⟨iter_tab e1 e2, e3, upd_self _ _ _, e4.tab e1⟩, fun g' c₁ B' => ?_⟩
  rw [upd_upd]
  refine e5 _ ⟨g', _, ts ++ [(gpos.line, gpos.col, c₁)], e1, rfl, B', by simp [h3, enc_append, enc], fun t ht => ?_⟩
  rcases List.mem_append.mp ht with ht | ht
  · have := h4 t ht; omega
  · simp at ht; subst ht; exact Nat.le_refl _
theorem law_any {iter elt : Expr} {x : Str} {p pos px gpos : Pos} {scope : Scope} {cl : List (Str × Addr)} (hgp : ∀ g d, c.gp g d ↔ AllBare g) (hA : AOk k A) (hk : k < 90) (P : Prog c K a) (E : LawE c env L cc ls gs) (hM : BMod c.b mainGlobals mg bm ob) (ha : ("any" : Str) ∈ gs) (W : Wt h₁ cc pt H H0 n) (hn : n < gpos.line) (G : GClos env scope cl x)
    (h : EOk c A env iter m H0 fun v H1 => ∃ xs q, iterItems H1 v = some xs ∧ ((∃ a, v = .ref a) ∨ ∃ lo n st, v = .rng lo n st) ∧ EltOk c A env m elt x scope cl H1 xs q ∧ ∀ H', Wt h₁ cc pt H' H1 gpos.line → Q (.bool (xs.any q)) H')
    (hs : ∀ x, genFold iter env x = pure x := by intro _; rfl) : EOk c A env (.Call (.Name "any" p) [.GeneratorExp elt [⟨.Name x px, iter, [], 0⟩] scope gpos] [] pos) m H Q := by
  obtain ⟨gh, ps, ts, h0, rfl, h2, h3, h4⟩ := W
  refine eok_any hgp hA.h (by have := hA.d; simp [recursionLimit]; omega) (E.bn P (by repeat (first | exact List.Mem.head _ | apply List.Mem.tail)) ha) G E.code (by rw [E.gl]; exact hM) P.nolimit E.above (upd_self _ _ _) h2 (by rw [h3]; exact enc_none fun t ht => Nat.lt_of_le_of_lt (h4 t ht) hn) ((eok_frame h0 h).mono ?_) hs
  rintro v H' ⟨H1, e1, rfl, xs, q, e2, e3, e4, e5⟩
  refine ⟨xs, q, ⟨iter_tab e1 e2, e3, upd_self _ _ _, e4.tab e1⟩, fun g' c₁ B' => ?_⟩
  rw [upd_upd]
  refine e5 _ ⟨g', _, ts ++ [(gpos.line, gpos.col, c₁)], e1, rfl, B', by simp [h3, enc_append, enc], fun t ht => ?_⟩
  rcases List.mem_append.mp ht with ht | ht
  · have := h4 t ht; omega
  · simp at ht; subst ht; exact Nat.le_refl _
end
end Mine
namespace Mine
open PySem PySem.W PySem.Calls PyProof.Rows

noncomputable def lawF : FD := defAt 13
noncomputable def lawL : List Str := ["script", "shape", "kind", "total", "cells", "sizes", "base", "row", "root", "ints", "facts", "body", "as_root", "as_inner", "crowded", "depths", "level", "count", "ordered", "sound", "above", "within", "claim", "m", "got", "want", "nums"]
noncomputable def lawG : List Str := ["len", "_law_SHAPES", "sum", "_law_sizes", "_law_row", "_law_tree", "all", "any", "max", "min", "range", "Canopy"]

theorem chk_empty {t : Int} (ht : 1 ≤ t) : chkB t 0 (.node [] [] []) = true := by
  have h1 : 1 ≤ 2 * t := by omega
  simp [chkB, shp, shpL, nodeOk, keysB, kidsB, rowOk, leafD, leafDL, levOf, cnt, cntL, h1]
theorem upd_lst {H : AH} {d r : Addr} {fs : List (Str × AV)} {xs : List AV} {o : AO} (hd : H d = some (.dict fs)) (h : H r = some (.lst xs)) : upd H d o r = some (.lst xs) := by
  rw [upd_ne (by rintro rfl; rw [hd] at h; cases h)]; exact h

theorem none_of_le {H H' : AH} {r : Addr} (h : Le H H') (hr : H' r = none) : H r = none := by
  cases e : H r with
  | none => rfl
  | some o => rw [h r o e] at hr; cases hr
theorem le_ne {H : AH} {r s : Addr} {o : AO} (h : H r = some o) (hs : H s = none) : r ≠ s := by rintro rfl; rw [h] at hs; cases hs

section
variable {c : Cx} {A : Around} {env : Env} {m : LM} {H : AH} {Q : AV → AH → Prop} {K : Frag} {a : Ads} {ls gs : List Str} {L cc pt : Addr} {h₁ : Heap} {H0 : AH} {n : Nat} {bm : Addr} {ob : Obj} {mg : Str → Option Value}

theorem sok_if_false {test : Expr} {body : List Stmt} {pos : Pos} {R : LM → AH → Prop} (h : TOk c A env test m H fun b H₁ => b = false ∧ R m H₁) : SOk c A env (exec (.If test body [] pos) env) m H fun fl m1 H1 => fl = .next ∧ R m1 H1 :=
  sok_if (h.mono fun b H₁ ⟨e, r⟩ => by subst e; exact ite_f (sok_nil ⟨rfl, r⟩))
theorem eok_and2_eq {x y : Expr} {pos : Pos} {b1 b2 : Bool} (h1 : EOk c A env x m H fun v H' => v = .bool b1 ∧ H' = H) (h2 : EOk c A env y m H fun v H' => v = .bool b2 ∧ H' = H) (h : Q (.bool (b1 && b2)) H) : EOk c A env (.BoolOp .And [x, y] pos) m H Q :=
  eok_and2 (h1.mono fun v H' e => ⟨b1, e.1, by
    rw [e.2]
    refine ite_b (fun e1 => h2.mono fun v H' e' => ?_) (fun e1 => ?_)
    · rw [e'.1, e'.2]; subst e1; simpa using h
    · subst e1; simpa using h⟩)

structure CIn (m : LM) (t lev cl : Int) (T : Tree) (x ri dl : Addr) (lo hi : Option Int) : Prop where
  ct : m "t" = some (.int t)
  root : m "root" = some (.ref x)
  fi : m "ints" = some (.ref ri)
  as_root : m "as_root" = some (.bool (shp t true T))
  as_inner : m "as_inner" = some (.bool (shp t false T))
  sound : m "sound" = some (.bool (shp t true T && (ordB (seqT T) && decide (lev ≥ 0))))
  crowded : m "crowded" = some (.bool (!nc T))
  depths : m "depths" = some (.ref dl)
  level : m "level" = some (.int lev)
  count : m "count" = some (.int (cnt T))
  ordered : m "ordered" = some (.bool (ordB (seqT T)))
  within : m "within" = some (.bool (ordB (seqT T) && ((seqT T).all (loOk lo) && (seqT T).all (hiOk hi))))
  low : m "low" = some (oi lo)
  high : m "high" = some (oi hi)
  claim : m "claim" = some (.int cl)

/-- the map under test -/
structure MS (a : Ads) (H0 H : AH) (mm d : Addr) (t : Int) (r : Addr) (sz : Int) : Prop where
  le : Le H0 H
  new : H0 d = none
  at_ : H mm = some (.inst a.canopy d)
  dict : H d = some (.dict (canF t r sz))
theorem MS.can {a : Ads} {H0 H : AH} {mm d : Addr} {t : Int} {r : Addr} {sz : Int} (M : MS a H0 H mm d t r sz) : CanAt a H mm t r sz := ⟨d, M.at_, M.dict⟩
theorem MS.mono {a : Ads} {H0 H H' : AH} {mm d : Addr} {t : Int} {r : Addr} {sz : Int} (M : MS a H0 H mm d t r sz) (k : Le H H') : MS a H0 H' mm d t r sz := ⟨M.le.trans k, M.new, k _ _ M.at_, k _ _ M.dict⟩
theorem MS.adopt {a : Ads} {H0 H : AH} {mm d : Addr} {t : Int} {r r' : Addr} {sz sz' : Int} (M : MS a H0 H mm d t r sz) : MS a H0 (upd H d (.dict (canF t r' sz'))) mm d t r' sz' :=
  ⟨le_set M.le M.new, M.new, by rw [upd_ne (by rintro rfl; have := M.at_; rw [M.dict] at this; cases this)]; exact M.at_, upd_self _ _ _⟩

theorem elt_type {A' : Around} {c' : Cx} {scope : Scope} {C : Addr} {code : Value} {x T : Str} {Ts : String} {p1 p2 p3 p4 p5 : Pos} {y : AV} (P : Prog c K a) (E : LawE c env L cc ls gs) (k : ∀ a o, c.b.get? a = some o → c'.b.get? a = some o) (hv : (∃ b, y = .bool b ∧ Ts = "bool") ∨ (∃ i, y = .int i ∧ Ts = "int")) (hT : (T, Value.type Ts) ∈ btab) (h1 : scope.kind = .function) (h2 : scope.names.lookup ("type" : Str) = some .globalImplicit) (h3 : scope.names.lookup T = some .globalImplicit) (h4 : (T == ("__debug__" : Str)) = false)
    (hx1 : (x == ("__debug__" : Str)) = false) (hx2 : (x == ("__classdict__" : Str)) = false) :
    EOk c' A' (genEnv scope [] C code builtinsNs env) (.Compare (.Call (.Name "type" p1) [.Name x p2] [] p3) [.Is] [.Name T p4] p5) (fun z => if z = x then some y else none) noH fun r H' => r = .bool true ∧ H' = noH := by
  have g1 : GName c' (genEnv scope [] C code builtinsNs env) "type" (.type "type") := (P.bn (env := genEnv scope [] C code builtinsNs env) (by repeat (first | exact List.Mem.head _ | apply List.Mem.tail)) h1 h2 E.gl rfl).up k
  have g2 : GName c' (genEnv scope [] C code builtinsNs env) T (.type Ts) := (P.bn (env := genEnv scope [] C code builtinsNs env) hT h1 h3 E.gl rfl h4).up k
  refine eok_cmp (eok_callT g1 (esok_cons (eok_name (v := y) (by simp) (esok_nil (cok_type (T := Ts) hv (eok_gname g2 (v := .typ Ts) rfl (cmp_is_typ ⟨by simp, rfl⟩ ?_)))) h1 hx1 hx2)))
  rcases hv with ⟨_, _, rfl⟩ | ⟨_, _, rfl⟩ <;> rfl

theorem partC {k : Nat} {t lev cl : Int} {T : Tree} {x ri rf rs dl : Addr} {lo hi : Option Int} (hgp : ∀ g d, c.gp g d ↔ AllBare g) (hA : AOk k A) (hk : k < 30) (P : Prog c K a) (E : LawE c env L cc lawL lawG) (hM : BMod c.b mainGlobals mg bm ob) (W : Wt h₁ cc pt H H0 n) (hn : n < 304)
    (I : CIn m t lev cl T x ri dl lo hi) (ht : 1 ≤ t) (hlev : lev = levOf (leafD 0 T)) (hL : Laid a H0 0 (T, x, ri, rf, rs)) (hdl : H0 dl = some (.lst ((leafD 0 T).map .int))) (hsz : wt T < 2 ^ 19) :
    SOk c A env (execs (lawF.body.drop 27) env) m H (fun fl _ H' => fl = .ret (.bool true) ∧ ∃ H1 n, Wt h₁ cc pt H' H1 n) := by
  have gC : GName c env "Canopy" (.ref a.canopy) := E.gn P (by repeat (first | exact List.Mem.head _ | apply List.Mem.tail)) (by decide)
  have hT0 : TreeAt a H0 T x := hL.tree
  -- m = Canopy(t)
  let RR1 : LM → AH → Prop := fun m1 H1 => ∃ mm d r, C3 (m1 = updM m "m" (.ref mm)) (MS a H0 H1 mm d t r 0) (TreeAt a H1 (.node [] [] []) r)
  refine sok_blk RR1 W
    (sok_assign (eok_make P.x gC P.canMakes.1 P.cInit.find P.cInit.typ P.canMakes.2 (esok_cons (eok_name I.ct (esok_nil fun mm d hmm hd hne rvs => cInit_ok P (hA.make _ _) (by omega) (upd_self _ _ _) (by rw [upd_ne hne.symm, upd_self]) fun H' r hle hc ht' => ⟨rfl, rfl, mm, d, r, rfl, ?_, ht'⟩) E.k))) (E.st (by decide)) E.k) ?_
  · obtain ⟨d', h1, h2⟩ := hc
    have h3 := hle mm (.inst a.canopy d) hne (upd_self _ _ _)
    rw [h3] at h1
    cases h1
    refine ⟨fun z o e => hle z o (by rintro rfl; rw [hd] at e; cases e) ?_, hd, h3, h2⟩
    rw [upd_ne (by rintro rfl; rw [hmm] at e; cases e), upd_ne (by rintro rfl; rw [hd] at e; cases e)]; exact e
  rintro _ H1 H1' ⟨mm, d, r, rfl, M1, hr1⟩ W1
  clear RR1
  -- the empty map
  let RR2 : LM → AH → Prop := fun m2 H2 => C3 (m2 = updM m "m" (.ref mm)) (MS a H0 H2 mm d t r 0) (TreeAt a H2 (.node [] [] []) r)
  refine sok_blk RR2 W1
    (sok_if_false (tok_boolop (all_or_cons (tok_cmp (can_attr P (eok_name (v := .ref mm) rfl ⟨rfl, M1.can, eok_int (cmp_ne ⟨_, rfl, ?_⟩)⟩ E.k) (by decide) (by rfl)))))) ?_
  · refine ite_b (fun e => absurd e (by simp)) fun _ => ?_
    refine all_or_cons (tok_cmp (can_attr P (eok_name (v := .ref mm) rfl ⟨rfl, M1.can, eok_name I.ct (cmp_ne ⟨_, rfl, ?_⟩) E.k⟩ E.k) (by decide) (by rfl)))
    refine ite_b (fun e => absurd e (by simp)) fun _ => ?_
    refine all_or_cons (tok_cmp (can_meth0 P P.cFlat (t := t) (r := r) (n := 0) rfl (eok_name (v := .ref mm) rfl ⟨rfl, M1.can, flat_ok P hA (by omega) M1.can hr1 (by simp [wt, wtL]) fun r1 hr1' => ?_⟩ E.k)))
    refine eok_list (esok_cons (eok_name I.ct (esok_cons (eok_int (esok_cons (eok_int (esok_nil ⟨Nat.le_of_ble_eq_true rfl, fun r2 hr2 => ?_⟩))))) E.k))
    refine cmp_ne_ints (ns := t :: flatT (.node [] [] [])) (ks := [t, 0, 0]) (le_upd hr2 _ _ (upd_self _ _ _)) (upd_self _ _ _) (by have := hA.u; simp [cLine]; omega) ⟨_, rfl, ?_⟩
    have e0 : decide (t :: flatT (.node [] [] []) = [t, 0, 0]) = true := by simp [flatT, flatTL]
    rw [e0]
    have le2 := (le_upd hr1').trans (le_upd (o := .lst [.int t, .int 0, .int 0]) hr2)
    exact ite_f (all_or_nil ⟨rfl, rfl, M1.mono le2, hr1.mono le2⟩)
  rintro _ H2 H2' ⟨rfl, M2, hr2⟩ W2
  clear RR2
  -- got, want
  let RR3 : LM → AH → Prop := fun m3 H3 => ∃ rg, C3 (m3 = updM (updM m "m" (.ref mm)) "got" (.ref rg)) (MS a H0 H3 mm d t r 0) (H3 rg = some (.lst ([true].map .bool)))
  refine sok_blk RR3 W2
    (sok_assign (eok_list (esok_cons (can_meth0 P P.cCheck (t := t) (r := r) (n := 0) rfl (eok_name (v := .ref mm) rfl ⟨rfl, M2.can, check_ok P hA (by omega) M2.can hr2 (by simp [wt, wtL]) (esok_nil ⟨Nat.le_of_ble_eq_true rfl, fun rg hrg => ⟨rfl, rg, rfl, M2.mono (le_upd hrg), ?_⟩⟩)⟩ E.k)))) (E.st (by decide)) E.k) ?_
  · rw [upd_self, chk_empty ht]; rfl
  rintro _ H3 H3' ⟨rg, rfl, M3, hg3⟩ W3
  clear RR3
  let RR4 : LM → AH → Prop := fun m4 H4 => ∃ rw', C4 (m4 = updM (updM (updM m "m" (.ref mm)) "got" (.ref rg)) "want" (.ref rw')) (MS a H0 H4 mm d t r 0) (H4 rg = some (.lst ([true].map .bool))) (H4 rw' = some (.lst ([true].map .bool)))
  refine sok_blk RR4 W3
    (sok_assign (eok_list (esok_cons (eok_bool (esok_nil ⟨Nat.le_of_ble_eq_true rfl, fun rw' hrw => ⟨rfl, rw', rfl, M3.mono (le_upd hrw), le_upd hrw _ _ hg3, upd_self _ _ _⟩⟩)))) (E.st (by decide)) E.k) ?_
  rintro _ H4 H4' ⟨rw', rfl, M4, hg4, hw4⟩ W4
  clear RR4
  -- adopt
  let RR5 : LM → AH → Prop := fun m5 H5 => C4 (m5 = updM (updM (updM m "m" (.ref mm)) "got" (.ref rg)) "want" (.ref rw')) (MS a H0 H5 mm d t x cl) (H5 rg = some (.lst ([true].map .bool))) (H5 rw' = some (.lst ([true].map .bool)))
  refine sok_blk RR5 W4
    (sok_expr (can_meth P P.cAdopt (t := t) (r := r) (n := 0) rfl (eok_name (v := .ref mm) rfl ⟨rfl, M4.can, esok_cons (eok_name I.root (esok_cons (eok_name I.claim (esok_nil (adopt_ok P hA (by omega) M4.at_ M4.dict ⟨rfl, rfl, rfl, M4.adopt, upd_lst M4.dict hg4, upd_lst M4.dict hw4⟩)) E.k)) E.k)⟩ E.k)) E.i) ?_
  rintro _ H5 H5' ⟨rfl, M5, hg5, hw5⟩ W5
  clear RR5
  have hT5 := hT0.mono M5.le
  -- got = got + ..
  let RR6 : LM → AH → Prop := fun m6 H6 => ∃ rg', C5 (m6 = updM (updM (updM (updM m "m" (.ref mm)) "got" (.ref rg)) "want" (.ref rw')) "got" (.ref rg')) (MS a H0 H6 mm d t x cl) (H6 rg' = some (.lst ([true, shp t true T, shp t false T, chkB t cl T].map .bool))) (H6 rw' = some (.lst ([true].map .bool))) (H0 rg' = none)
  refine sok_blk RR6 W5
    (sok_assign (eok_binop (eok_name (v := .ref rg) rfl (eok_list (esok_cons (can_meth P P.cShape (t := t) (r := x) (n := cl) rfl (eok_name (v := .ref mm) rfl ⟨rfl, M5.can, esok_cons (eok_name I.root (esok_cons (eok_bool (esok_nil (shape_ok P hA (by omega) M5.can hT5 (by omega) ?_))) ) E.k)⟩ E.k)))) E.k)) (E.st (by decide)) E.k) ?_
  · refine esok_cons (can_meth P P.cShape (t := t) (r := x) (n := cl) rfl (eok_name (v := .ref mm) rfl ⟨rfl, M5.can, esok_cons (eok_name I.root (esok_cons (eok_bool (esok_nil (shape_ok P hA (by omega) M5.can hT5 (by omega) ?_)))) E.k)⟩ E.k))
    refine esok_cons (can_meth0 P P.cCheck (t := t) (r := x) (n := cl) rfl (eok_name (v := .ref mm) rfl ⟨rfl, M5.can, check_ok P hA (by omega) M5.can hT5 (by omega) (esok_nil ⟨Nat.le_of_ble_eq_true rfl, fun r1 hr1 => ?_⟩)⟩ E.k))
    refine bin_add_list (le_upd hr1 _ _ hg5) (upd_self _ _ _) (by simp [sizeLine]) fun rg' hrg' => ?_
    have le6 := (le_upd hr1).trans (le_upd (o := .lst ([true].map AV.bool ++ [.bool (shp t true T), .bool (shp t false T), .bool (chkB t cl T)])) hrg')
    exact ⟨rfl, rg', rfl, M5.mono le6, upd_self _ _ _, le6 _ _ hw5, none_of_le (M5.le.trans (le_upd hr1)) hrg'⟩
  rintro _ H6 H6' ⟨rg', rfl, M6, hg6, hw6, ng⟩ W6
  clear RR6
  -- want = want + ..
  let RR7 : LM → AH → Prop := fun m7 H7 => ∃ rw2, C6 (m7 = updM (updM (updM (updM (updM m "m" (.ref mm)) "got" (.ref rg)) "want" (.ref rw')) "got" (.ref rg')) "want" (.ref rw2)) (MS a H0 H7 mm d t x cl) (H7 rg' = some (.lst ([true, shp t true T, shp t false T, chkB t cl T].map .bool))) (H7 rw2 = some (.lst ([true, shp t true T, shp t false T, chkB t cl T].map .bool))) (H0 rw2 = none) (rg' ≠ rw2)
  refine sok_blk RR7 W6
    (sok_assign (eok_binop (eok_name (v := .ref rw') rfl (eok_list (esok_cons (eok_name I.as_root (esok_cons (eok_name I.as_inner (esok_cons (eok_and2_eq (b2 := cl == cnt T) (eok_name I.sound ⟨rfl, rfl⟩ E.k) (eok_cmp (eok_name I.claim (eok_name I.count (cmp_eq ⟨rfl, rfl⟩) E.k) E.k)) ?_)) E.k)) E.k))) E.k)) (E.st (by decide)) E.k) ?_
  · have e0 : (shp t true T && (ordB (seqT T) && decide (lev ≥ 0)) && (cl == cnt T)) = chkB t cl T := by rw [chk_law, hlev]
    rw [e0]
    refine esok_nil ⟨Nat.le_of_ble_eq_true rfl, fun r1 hr1 => ?_⟩
    refine bin_add_list (le_upd hr1 _ _ hw6) (upd_self _ _ _) (by simp [sizeLine]) fun rw2 hrw2 => ?_
    have le7 := (le_upd hr1).trans (le_upd (o := .lst ([true].map AV.bool ++ [.bool (shp t true T), .bool (shp t false T), .bool (chkB t cl T)])) hrw2)
    exact ⟨rfl, rw2, rfl, M6.mono le7, le7 _ _ hg6, upd_self _ _ _, none_of_le (M6.le.trans (le_upd hr1)) hrw2, le_ne (le_upd hr1 _ _ hg6) hrw2⟩
  rintro _ H7 H7' ⟨rw2, rfl, M7, hg7, hw7, nw, ngw⟩ W7
  clear RR7
  obtain ⟨m8, hm8⟩ : ∃ m8, m8 = updM (updM (updM (updM (updM m "m" (.ref mm)) "got" (.ref rg)) "want" (.ref rw')) "got" (.ref rg')) "want" (.ref rw2) := ⟨_, rfl⟩
  have I8 : CIn m8 t lev cl T x ri dl lo hi := by subst hm8; exact ⟨I.ct, I.root, I.fi, I.as_root, I.as_inner, I.sound, I.crowded, I.depths, I.level, I.count, I.ordered, I.within, I.low, I.high, I.claim⟩
  have mm8 : m8 "m" = some (.ref mm) := by subst hm8; rfl
  have mg8 : m8 "got" = some (.ref rg') := by subst hm8; rfl
  have mw8 : m8 "want" = some (.ref rw2) := by subst hm8; rfl
  rw [← hm8]
  clear hm8 I W W1 W2 W3 W4 W5 W6 hg3 hg4 hg5 hg6 hw4 hw5 hw6 M1 M2 M3 M4 M5 M6 hr1 hr2
  -- the size
  let RR8 : LM → AH → Prop := fun m9 H9 => m8 = m9 ∧ H7 = H9
  refine sok_blk RR8 W7 (sok_if_false (tok_cmp (can_attr P (eok_name mm8 ⟨rfl, M7.can, eok_name I8.claim (cmp_ne ⟨_, rfl, ?_⟩) E.k⟩ E.k) (by decide) (by rfl)))) ?_
  · exact ⟨by simp, rfl, rfl⟩
  rintro _ _ H8' ⟨rfl, rfl⟩ W8
  clear RR8
  -- adopt again
  let RR9 : LM → AH → Prop := fun m9 H9 => C4 (m8 = m9) (MS a H0 H9 mm d t x (cnt T)) (H9 rg' = some (.lst ([true, shp t true T, shp t false T, chkB t cl T].map .bool))) (H9 rw2 = some (.lst ([true, shp t true T, shp t false T, chkB t cl T].map .bool)))
  refine sok_blk RR9 W8
    (sok_expr (can_meth P P.cAdopt (t := t) (r := x) (n := cl) rfl (eok_name mm8 ⟨rfl, M7.can, esok_cons (eok_name I8.root (esok_cons (eok_name I8.count (esok_nil (adopt_ok P hA (by omega) M7.at_ M7.dict ⟨rfl, rfl, rfl, M7.adopt, upd_lst M7.dict hg7, upd_lst M7.dict hw7⟩)) E.k)) E.k)⟩ E.k)) E.i) ?_
  rintro _ H9 H9' ⟨rfl, M9, hg9, hw9⟩ W9
  clear RR9
  have hT9 := hT0.mono M9.le
  -- got.append, want.append
  have set_ms : ∀ {H : AH} {r : Addr} {o : AO} {xs : List AV}, MS a H0 H mm d t x (cnt T) → H r = some (.lst xs) → H0 r = none → MS a H0 (upd H r o) mm d t x (cnt T) := fun {H r o xs} M h h0 =>
    ⟨le_set M.le h0, M.new, by rw [upd_ne (by rintro rfl; have := M.at_; rw [h] at this; cases this)]; exact M.at_, by rw [upd_ne (by rintro rfl; have := M.dict; rw [h] at this; cases this)]; exact M.dict⟩
  let RR10 : LM → AH → Prop := fun m10 H10 => C4 (m8 = m10) (MS a H0 H10 mm d t x (cnt T)) (H10 rg' = some (.lst ([true, shp t true T, shp t false T, chkB t cl T, chkB t (cnt T) T].map .bool))) (H10 rw2 = some (.lst ([true, shp t true T, shp t false T, chkB t cl T].map .bool)))
  refine sok_blk RR10 W9
    (sok_expr (eok_append (pl := _) (eok_name mg8 ⟨rg', _, rfl, hg9, can_meth0 P P.cCheck (t := t) (r := x) (n := cnt T) rfl (eok_name mm8 ⟨rfl, M9.can, check_ok P hA (by omega) M9.can hT9 (by omega) ⟨_, hg9, by simp [sizeLine], rfl, rfl, rfl, set_ms M9 hg9 ng, upd_self _ _ _, by rw [upd_ne ngw.symm]; exact hw9⟩⟩ E.k)⟩ E.k)) E.i) ?_
  rintro _ H10 H10' ⟨rfl, M10, hg10, hw10⟩ W10
  clear RR10
  have e0 : (shp t true T && (ordB (seqT T) && decide (lev ≥ 0))) = chkB t (cnt T) T := by rw [chk_law, hlev]; simp
  let RR11 : LM → AH → Prop := fun m11 H11 => C4 (m8 = m11) (MS a H0 H11 mm d t x (cnt T)) (H11 rg' = some (.lst ([true, shp t true T, shp t false T, chkB t cl T, chkB t (cnt T) T].map .bool))) (H11 rw2 = some (.lst ([true, shp t true T, shp t false T, chkB t cl T, chkB t (cnt T) T].map .bool)))
  refine sok_blk RR11 W10
    (sok_expr (eok_append (pl := _) (eok_name mw8 ⟨rw2, _, rfl, hw10, eok_name I8.sound ⟨_, hw10, by simp [sizeLine], rfl, rfl, rfl, set_ms M10 hw10 nw, by rw [upd_ne ngw]; exact hg10, by rw [upd_self, e0]; rfl⟩ E.k⟩ E.k)) E.i) ?_
  rintro _ H11 H11' ⟨rfl, M11, hg11, hw11⟩ W11
  clear RR11
  have hT11 := hT0.mono M11.le
  clear hg10 hw10 hg9 hw9 hg7 hw7 M7 M9 M10 W7 W8 W9 W10 hT9
  -- not crowded
  let RR12 : LM → AH → Prop := fun m12 H12 => C4 (CIn m12 t lev cl T x ri dl lo hi) (m12 "m" = some (.ref mm)) (MS a H0 H12 mm d t x (cnt T)) (∃ (r1 r2 : Addr) (bs : List Bool), C4 (m12 "got" = some (.ref r1)) (m12 "want" = some (.ref r2)) (H12 r1 = some (.lst (bs.map .bool))) (H12 r2 = some (.lst (bs.map .bool))))
  refine sok_blk RR12 W11
    (sok_if_eq (bv := !(!nc T)) (tok_not (tok_value (eok_name I8.crowded ⟨_, rfl, rfl, rfl⟩ E.k))) (fun e => ?_) (fun e => sok_nil ⟨rfl, I8, mm8, M11, rg', rw2, _, mg8, mw8, hg11, hw11⟩)) ?_
  · have hnc : nc T = true := by simpa using e
    refine sok_cons (sok_assign (eok_binop (eok_name mg8 (eok_list (esok_cons (can_meth P P.cKeys (t := t) (r := x) (n := cnt T) rfl (eok_name mm8 ⟨rfl, M11.can, esok_cons (eok_name I8.root (esok_cons (eok_none (esok_cons (eok_none (esok_nil (keys_ok (lo := none) (hi := none) P hA (by omega) hT11 hnc (by omega) ?_)))))) E.k)⟩ E.k)))) E.k)) (E.st (by decide)) E.k)
    refine esok_cons (can_meth P P.cKeys (t := t) (r := x) (n := cnt T) rfl (eok_name mm8 ⟨rfl, M11.can, esok_cons (eok_name I8.root (esok_cons (eok_name I8.low (esok_cons (eok_name I8.high (esok_nil (keys_ok (lo := lo) (hi := hi) P hA (by omega) hT11 hnc (by omega) ?_)) E.k)) E.k)) E.k)⟩ E.k))
    refine esok_nil ⟨Nat.le_of_ble_eq_true rfl, fun r1 hr1 => ?_⟩
    refine bin_add_list (le_upd hr1 _ _ hg11) (upd_self _ _ _) (by simp [sizeLine]) fun rg2 hrg2 => ?_
    rw [keysB_none hnc, keysB_eq hnc]
    have le1 := (le_upd hr1).trans (le_upd (o := .lst ([true, shp t true T, shp t false T, chkB t cl T, chkB t (cnt T) T].map AV.bool ++ [.bool (keysB none none T), .bool (keysB lo hi T)])) hrg2)
    rw [keysB_none hnc, keysB_eq hnc] at le1
    refine sok_cons (sok_assign (eok_binop (eok_name (v := .ref rw2) mw8 (eok_list (esok_cons (eok_name (v := .bool (ordB (seqT T))) I8.ordered (esok_cons (eok_name I8.within (esok_nil ⟨Nat.le_of_ble_eq_true rfl, fun r3 hr3 => bin_add_list (le_upd hr3 _ _ (le1 _ _ hw11)) (upd_self _ _ _) (by simp [sizeLine]) fun rw3 hrw3 => ?_⟩) E.k)) E.k))) E.k)) (E.st (by decide)) E.k)
    have le2 := (le_upd hr3).trans (le_upd (o := .lst ([true, shp t true T, shp t false T, chkB t cl T, chkB t (cnt T) T].map AV.bool ++ [.bool (ordB (seqT T)), .bool (ordB (seqT T) && ((seqT T).all (loOk lo) && (seqT T).all (hiOk hi)))])) hrw3)
    refine sok_nil ⟨rfl, ⟨I8.ct, I8.root, I8.fi, I8.as_root, I8.as_inner, I8.sound, I8.crowded, I8.depths, I8.level, I8.count, I8.ordered, I8.within, I8.low, I8.high, I8.claim⟩, mm8, (M11.mono le1).mono le2, rg2, rw3, [true, shp t true T, shp t false T, chkB t cl T, chkB t (cnt T) T, ordB (seqT T), ordB (seqT T) && ((seqT T).all (loOk lo) && (seqT T).all (hiOk hi))], rfl, rfl, le2 _ _ (upd_self _ _ _), upd_self _ _ _⟩
  clear I8 mm8 mg8 mw8 M11 hg11 hw11 W11 hT11 ng nw ngw
  rintro m12 H12 H12' ⟨I, mm12, M12, rg, rw1, bs, mg12, mw12, hg12, hw12⟩ W12
  clear RR12
  have hT12 := hT0.mono M12.le
  -- got != want
  let RR13 : LM → AH → Prop := fun m9 H9 => m12 = m9 ∧ H12 = H9
  refine sok_blk RR13 W12 (sok_if_false (tok_cmp (eok_name mg12 (eok_name mw12 (cmp_ne_bools (ns := bs) (ks := bs) hg12 hw12 (by have := hA.u; simp [cLine]; omega) ⟨_, rfl, by simp, rfl, rfl⟩) E.k) E.k))) ?_
  rintro _ _ H13' ⟨rfl, rfl⟩ W13
  clear RR13
  -- types
  refine sok_cons ((sok_if_false (R := fun m1 H1 => m12 = m1 ∧ Wt h₁ cc pt H1 H12 304) (tok_not (tok_value (law_all hgp hA (by omega) P E hM (by decide) W13 hn E.gc0 (eok_name mg12 ⟨bs.map .bool, fun _ => true, by simp only [iterItems, hg12], .inl ⟨_, rfl⟩, fun y hy => ⟨fun z => if z = "x" then some y else none, fun z w e => ?_, fun C code A' c' q1 q2 q3 q4 q5 q6 => elt_type (Ts := "bool") P E q6 (.inl ?_) (by repeat (first | exact List.Mem.head _ | apply List.Mem.tail)) rfl rfl rfl (by decide) (by decide) (by decide)⟩, fun H' W' => ⟨_, rfl, by simp, rfl, W'⟩⟩ E.k))))).mono ?_)
  · exact mb1 z w e
  · obtain ⟨b, _, rfl⟩ := List.mem_map.mp hy
    exact ⟨b, rfl, rfl⟩
  rintro fl _ H14' ⟨rfl, rfl, W14⟩
  -- nums
  let RR14 : LM → AH → Prop := fun m15 H15 => ∃ rn, C3 (m15 = updM m12 "nums" (.ref rn)) (MS a H0 H15 mm d t x (cnt T)) (H15 rn = some (.lst ([lev, (hgt T : Int), cnt T, cnt T].map .int)))
  refine sok_blk RR14 W14
    (sok_assign (eok_list (esok_cons (can_meth P P.cLevel (t := t) (r := x) (n := cnt T) rfl (eok_name mm12 ⟨rfl, M12.can, esok_cons (eok_name I.root (esok_nil (level_ok P hA (by omega) hT12 (by omega) ?_)) E.k)⟩ E.k)))) (E.st (by decide)) E.k) ?_
  · have hw1 := cnt_wt T
    have hw2 := nodes_wt T
    refine esok_cons (can_meth0 P P.cHeight (t := t) (r := x) (n := cnt T) rfl (eok_name mm12 ⟨rfl, M12.can, height_ok P hA (by omega) M12.can hT12 (by omega) ?_⟩ E.k))
    refine esok_cons (can_meth P P.cCount (t := t) (r := x) (n := cnt T) rfl (eok_name mm12 ⟨rfl, M12.can, esok_cons (eok_name I.root (esok_nil (count_ok P hA (by omega) hT12 (by omega) (by omega) ?_)) E.k)⟩ E.k))
    refine esok_cons (can_attr P (eok_name mm12 ⟨rfl, M12.can, esok_nil ⟨Nat.le_of_ble_eq_true rfl, fun rn hrn => ⟨rfl, rn, rfl, M12.mono (le_upd hrn), ?_⟩⟩⟩ E.k) (by decide) (by rfl))
    rw [upd_self, hlev]; rfl
  rintro _ H15 H15' ⟨rn, rfl, M15, hn15⟩ W15
  clear RR14
  have I15 : CIn (updM m12 "nums" (.ref rn)) t lev cl T x ri dl lo hi := ⟨I.ct, I.root, I.fi, I.as_root, I.as_inner, I.sound, I.crowded, I.depths, I.level, I.count, I.ordered, I.within, I.low, I.high, I.claim⟩
  have mm15 : updM m12 "nums" (.ref rn) "m" = some (.ref mm) := mm12
  have mn15 : updM m12 "nums" (.ref rn) "nums" = some (.ref rn) := rfl
  generalize updM m12 "nums" (.ref rn) = m15 at I15 mm15 mn15 ⊢
  have hd0 := hgt_leaf T 0
  let RR15 : LM → AH → Prop := fun m16 H16 => C3 (m15 = m16) (MS a H0 H16 mm d t x (cnt T)) (H16 rn = some (.lst ([lev, (hgt T : Int), cnt T, cnt T].map .int)))
  refine sok_blk RR15 W15
    (sok_if_false (tok_cmp (eok_name mn15 (eok_list (esok_cons (eok_name I15.level (esok_cons (eok_item_lst (eok_name I15.depths (eok_int ⟨dl, _, _, .int (hgt T), rfl, rfl, M15.le _ _ hdl, by decide, by decide, by simpa using hd0, ?_⟩) E.k))) E.k))) E.k))) ?_
  · refine esok_cons (eok_name I15.count (esok_cons (eok_name I15.count (esok_nil ⟨Nat.le_of_ble_eq_true rfl, fun r1 hr1 => ?_⟩) E.k)) E.k)
    refine cmp_ne_ints (ns := [lev, (hgt T : Int), cnt T, cnt T]) (ks := [lev, (hgt T : Int), cnt T, cnt T]) (le_upd hr1 _ _ hn15) (upd_self _ _ _) (by have := hA.u; simp [cLine]; omega) ⟨_, rfl, ?_⟩
    exact ⟨by simp, rfl, M15.mono (le_upd hr1), le_upd hr1 _ _ hn15⟩
  rintro _ H16 H16' ⟨rfl, M16, hn16⟩ W16
  clear RR15
  refine sok_cons ((sok_if_false (R := fun m1 H1 => m15 = m1 ∧ Wt h₁ cc pt H1 H16 309) (tok_not (tok_value (law_all hgp hA (by omega) P E hM (by decide) W16 (by decide) E.gc0 (eok_name mn15 ⟨[lev, (hgt T : Int), cnt T, cnt T].map .int, fun _ => true, by simp only [iterItems, hn16], .inl ⟨_, rfl⟩, fun y hy => ⟨fun z => if z = "x" then some y else none, fun z w e => ?_, fun C code A' c' q1 q2 q3 q4 q5 q6 => elt_type (Ts := "int") P E q6 (.inr ?_) (by repeat (first | exact List.Mem.head _ | apply List.Mem.tail)) rfl rfl rfl (by decide) (by decide) (by decide)⟩, fun H' W' => ⟨_, rfl, by simp, rfl, W'⟩⟩ E.k))))).mono ?_)
  · exact mb1 z w e
  · obtain ⟨b, _, rfl⟩ := List.mem_map.mp hy
    exact ⟨b, rfl, rfl⟩
  rintro fl _ H17' ⟨rfl, rfl, W17⟩
  -- flat
  have hT16 := hT0.mono M16.le
  let RR16 : LM → AH → Prop := fun m18 H18 => m15 = m18 ∧ MS a H0 H18 mm d t x (cnt T)
  refine sok_blk RR16 W17
    (sok_if_false (tok_boolop (all_or_cons (tok_cmp (can_attr P (eok_name mm15 ⟨rfl, M16.can, eok_name I15.ct (cmp_ne ⟨_, rfl, ?_⟩) E.k⟩ E.k) (by decide) (by rfl)))))) ?_
  · refine ite_b (fun e => absurd e (by simp)) fun _ => ?_
    have hfl := flatT_length T
    refine all_or_cons (tok_cmp (can_meth0 P P.cFlat (t := t) (r := x) (n := cnt T) rfl (eok_name mm15 ⟨rfl, M16.can, flat_ok P hA (by omega) M16.can hT16 (by omega) fun r1 hr1 => ?_⟩ E.k)))
    refine eok_binop (eok_list (esok_cons (eok_name I15.ct (esok_nil ⟨Nat.le_of_ble_eq_true rfl, fun r2 hr2 => eok_name I15.fi (bin_add_list (upd_self _ _ _) (le_upd hr2 _ _ (le_upd hr1 _ _ (M16.le _ _ hL.fi))) (by simp [sizeLine]; omega) fun r3 hr3 => ?_) E.k⟩) E.k)))
    refine cmp_ne_ints (ns := t :: flatT T) (ks := t :: flatT T) (le_upd hr3 _ _ (le_upd hr2 _ _ (upd_self _ _ _))) (upd_self _ _ _) (by have := hA.u; simp [cLine]; omega) ⟨_, rfl, ?_⟩
    have e1 : decide (t :: flatT T = t :: flatT T) = true := by simp
    rw [e1]
    exact ite_f (all_or_nil ⟨rfl, rfl, M16.mono (((le_upd hr1).trans (le_upd hr2)).trans (le_upd hr3))⟩)
  rintro _ H18 H18' ⟨rfl, M18⟩ W18
  clear RR16
  let RR17 : LM → AH → Prop := fun m19 H19 => m15 = m19 ∧ H18 = H19
  refine sok_blk RR17 W18 (sok_if_false (tok_not (tok_cmp (can_attr P (eok_name mm15 ⟨rfl, M18.can, eok_name I15.root (cmp_is_ref ⟨_, rfl, rfl, rfl, rfl⟩) E.k⟩ E.k) (by decide) (by rfl))))) ?_
  rintro _ _ H19' ⟨rfl, rfl⟩ W19
  clear RR17
  exact sok_cons (sok_return (eok_bool ⟨rfl, _, _, W19⟩))
end
end Mine
namespace Mine
open PySem PySem.W PySem.Calls PyProof.Rows

theorem Wt.up {h₁ : Heap} {cc pt : Addr} {H H0 : AH} {n n' : Nat} (w : Wt h₁ cc pt H H0 n) (h : n ≤ n') : Wt h₁ cc pt H H0 n' := by
  obtain ⟨gh, ps, ts, h1, h2, h3, h4, h5⟩ := w
  exact ⟨gh, ps, ts, h1, h2, h3, h4, fun t ht => Nat.le_trans (h5 t ht) h⟩

noncomputable def fPz (z : AV) : Bool := match z with
  | .tup [_, _, .int i, _] => i == 0
  | _ => false
noncomputable def fGd (z : AV) : AV := match z with
  | .tup [_, _, _, d] => d
  | z => z
noncomputable def fGn (z : AV) : AV := match z with
  | .tup [k, _, _, _] => k
  | z => z
theorem filter_facts : ∀ F : List Fact, ((F.map fAV).filter fPz).map fGd = ((F.filter (·.2.2.1 == 0)).map (·.2.2.2)).map .int
  | [] => rfl
  | f :: F => by
    have e : fPz (fAV f) = (f.2.2.1 == 0) := by
      exact nateq f.2.2.1 0
    simp only [List.map_cons, List.filter_cons, e]
    cases h : (f.2.2.1 == 0) with
    | true => simp only [if_true, List.map_cons, filter_facts F]; rfl
    | false => simp only [Bool.false_eq_true, if_false, filter_facts F]
theorem map_facts : ∀ F : List Fact, ((F.map fAV).filter fun _ => true).map fGn = (F.map fun f => (f.1 : Int)).map .int := fun F => by
  rw [filter_all, List.map_map, List.map_map]; rfl
theorem sum_le : ∀ {ns : List Int}, (∀ x ∈ ns, 0 ≤ x) → ∀ j, 0 ≤ (ns.take j).sum ∧ (ns.take j).sum ≤ ns.sum
  | [], _, j => by simp
  | n :: ns, h, 0 => by
    have h1 := h n (by simp)
    have h2 := sum_le (ns := ns) (fun x hx => h x (by simp [hx])) 0
    simp at h2 ⊢; omega
  | n :: ns, h, j + 1 => by
    have h1 := h n (by simp)
    have h2 := sum_le (ns := ns) (fun x hx => h x (by simp [hx])) j
    simp only [List.take_succ_cons, List.sum_cons]; omega
theorem elt_le : ∀ {ns : List Int}, (∀ x ∈ ns, 0 ≤ x) → ∀ j, j < ns.length → 0 ≤ ns.getD j 0 ∧ ns.getD j 0 ≤ ns.sum
  | [], _, j, hj => by simp at hj
  | n :: ns, h, 0, _ => by
    have h1 := h n (by simp)
    have h2 := sum_le (ns := ns) (fun x hx => h x (by simp [hx])) 0
    simp at h2 ⊢; omega
  | n :: ns, h, j + 1, hj => by
    have h1 := h n (by simp)
    have h2 := elt_le (ns := ns) (fun x hx => h x (by simp [hx])) j (by simpa using hj)
    simp only [List.getD_cons_succ, List.sum_cons]; omega

noncomputable def qBody (t : Int) (z : AV) : Bool := match z with
  | .tup [.int n0, .int n1, .int n2, _] => (n1 == n0) && (decide (n0 ≤ 2 * t - 1) && (n2 == 0 || n2 == n0 + 1))
  | _ => true
theorem qBody_all (t : Int) (F : List Fact) : (F.map fAV).all (qBody t) = F.all (bodyF t) := by
  rw [List.all_map]
  congr 1
  funext f
  show (((f.2.1 : Int) == (f.1 : Int)) && (decide ((f.1 : Int) ≤ 2 * t - 1) && ((f.2.2.1 : Int) == 0 || (f.2.2.1 : Int) == (f.1 : Int) + 1))) = bodyF t f
  simp only [bodyF, nateq]
  rw [show ((f.2.2.1 : Int) == 0) = (f.2.2.1 == 0) from nateq f.2.2.1 0, show ((f.2.2.1 : Int) == (f.1 : Int) + 1) = (f.2.2.1 == f.1 + 1) from nateq f.2.2.1 (f.1 + 1)]
noncomputable def qGe (t : Int) (z : AV) : Bool := match z with
  | .tup (.int n0 :: _) => decide (n0 ≥ t - 1)
  | _ => true
theorem qGe_all (t : Int) (F : List Fact) : (F.map fAV).all (qGe t) = F.all (geF t) := by
  rw [List.all_map]; rfl
noncomputable def qCr (z : AV) : Bool := match z with
  | .tup [.int n0, _, .int n2, _] => decide (n2 > n0 + 1)
  | _ => true
theorem qCr_any (F : List Fact) : (F.map fAV).any qCr = F.any fun f => decide ((f.2.2.1 : Int) > (f.1 : Int) + 1) := by
  rw [List.any_map]; rfl
noncomputable def qOrd (S : List Int) (z : AV) : Bool := match z with
  | .int i => decide (S.getD i.toNat 0 < S.getD (i.toNat + 1) 0)
  | _ => true
theorem qOrd_all (S : List Int) (k : Nat) (hk : k = S.length - 1) : ((List.range k).map fun i : Nat => AV.int (0 + (i : Int) * 1)).all (qOrd S) = ordB S := by
  subst hk
  rw [List.all_map, ordB]
  congr 1
  funext i
  show decide (S.getD (0 + (i : Int) * 1).toNat 0 < S.getD ((0 + (i : Int) * 1).toNat + 1) 0) = _
  rw [show (0 + (i : Int) * 1).toNat = i by omega]
noncomputable def qLo (lo : Option Int) (z : AV) : Bool := match z with
  | .int k => loOk lo k
  | _ => true
theorem qLo_all (lo : Option Int) (S : List Int) : (S.map AV.int).all (qLo lo) = S.all (loOk lo) := by rw [List.all_map]; rfl
noncomputable def qHi (hi : Option Int) (z : AV) : Bool := match z with
  | .int k => hiOk hi k
  | _ => true
theorem qHi_all (hi : Option Int) (S : List Int) : (S.map AV.int).all (qHi hi) = S.all (hiOk hi) := by rw [List.all_map]; rfl
theorem isNone_oi (o : Option Int) : isNone (oi o) = o.isNone := by cases o <;> rfl

section
variable {c : Cx} {A : Around} {env : Env} {m : LM} {H : AH} {Q : AV → AH → Prop} {K : Frag} {a : Ads} {ls gs : List Str} {L cc pt : Addr} {h₁ : Heap} {H0 : AH} {n : Nat} {bm : Addr} {ob : Obj} {mg : Str → Option Value}

theorem eok_and_eq {x y : Expr} {r : List Expr} {pos : Pos} {b1 b2 : Bool} (h1 : EOk c A env x m H fun v H' => v = .bool b1 ∧ H' = H) (h2 : EOk c A env (.BoolOp .And (y :: r) pos) m H fun v H' => v = .bool b2 ∧ H' = H) (h : Q (.bool (b1 && b2)) H) : EOk c A env (.BoolOp .And (x :: y :: r) pos) m H Q :=
  eok_and_cons (h1.mono fun v H' e => ⟨b1, e.1, by
    rw [e.2]
    refine ite_b (fun e1 => h2.mono fun v H' e' => ?_) (fun e1 => ?_)
    · rw [e'.1, e'.2]; subst e1; simpa using h
    · subst e1; simpa using h⟩)
theorem eok_or2_eq {x y : Expr} {pos : Pos} {b1 b2 : Bool} (h1 : EOk c A env x m H fun v H' => v = .bool b1 ∧ H' = H) (h2 : b1 = false → EOk c A env y m H fun v H' => v = .bool b2 ∧ H' = H) (h : Q (.bool (b1 || b2)) H) : EOk c A env (.BoolOp .Or [x, y] pos) m H Q :=
  eok_or2 (h1.mono fun v H' e => ⟨b1, e.1, by
    rw [e.2]
    refine ite_b (fun e1 => ?_) (fun e1 => (h2 e1).mono fun v H' e' => ?_)
    · subst e1; simpa using h
    · rw [e'.1, e'.2]; subst e1; simpa using h⟩)
theorem sok_if_setU {test e : Expr} {x : Str} {px pos pos' : Pos} {bv : Bool} {v0 v1 : AV} {Q : AFl → LM → AH → Prop} (hx : m x = some v0) (ht : TOk c A env test m H fun b H₁ => b = bv ∧ H₁ = H) (he : bv = true → EOk c A env e m H fun v H₁ => v = v1 ∧ H₁ = H) (hst : Stores env x) (hk : env.scope.kind = .function)
    (h : Q .next (updM m x (if bv = true then v1 else v0)) H) (hs : swapsWith e (some (.Name x px)) pos.line env = pure false := by rfl) : SOk c A env (exec (.If test [.Assign [.Name x px] e pos] [] pos') env) m H Q :=
  sok_if_set hx ht he hst hk (fun m2 h1 h2 => by
    have : m2 = updM m x (if bv = true then v1 else v0) := by
      funext z
      simp only [updM]
      by_cases hz : z = x
      · subst hz; rw [if_pos rfl]; exact h1
      · rw [if_neg hz]; exact h2 z hz
    rw [this]; exact h) hs

/-- f[i] -/
theorem fact_item {A' : Around} {p1 p2 p3 : Pos} {k0 : Nat} {f : Fact} {i : Nat} {v : AV} (hm : m "f" = some (fAV f)) (hv : [AV.int f.1, .int f.2.1, .int f.2.2.1, .int f.2.2.2][i]? = some v) (hk : env.scope.kind = .function) (hq : Q v H) : EOk c A' env (.Subscript (.Name "f" p1) (.Constant (.int (i : Int)) k0 p2) p3) m H Q := by
  have hi4 : i < 4 := by have := (List.getElem?_eq_some_iff.mp hv).1; simpa using this
  exact eok_item_tup (eok_name hm (eok_int ⟨_, _, v, rfl, rfl, by omega, by omega, by simpa using hv, hq⟩) hk)

structure BIn (m : LM) (ns : List Int) (t bs : Int) (x ri rf rs : Addr) : Prop where
  script : m "script" = some (.fro ns)
  ct : m "t" = some (.int t)
  base : m "base" = some (.int bs)
  root : m "root" = some (.ref x)
  fi : m "ints" = some (.ref ri)
  ff : m "facts" = some (.ref rf)
  fs : m "seq" = some (.ref rs)

theorem partB {k : Nat} {t bs : Int} {ns : List Int} {T : Tree} {x ri rf rs : Addr} (hgp : ∀ g d, c.gp g d ↔ AllBare g) (hA : AOk k A) (hk : k < 30) (P : Prog c K a) (E : LawE c env L cc lawL lawG) (hM : BMod c.b mainGlobals mg bm ob) (W : Wt h₁ cc pt H H0 n) (hn : n < 266)
    (I : BIn m ns t bs x ri rf rs) (hns : 17 ≤ ns.length) (ht : 1 ≤ t) (hL : Laid a H0 0 (T, x, ri, rf, rs)) (hsz : wt T < 2 ^ 19) :
    SOk c A env (execs (lawF.body.drop 10) env) m H (fun fl _ H' => fl = .ret (.bool true) ∧ ∃ H1 n, Wt h₁ cc pt H' H1 n) := by
  have hF : H0 rf = some (.lst ((factsT 0 T).map fAV)) := hL.ff
  -- body
  refine sok_cons (sok_assign (law_all hgp hA (by omega) P E hM (by decide) W hn (E.gc1 (z := "t") rfl) (eok_name I.ff ⟨(factsT 0 T).map fAV, qBody t, by simp only [iterItems, hF], .inl ⟨_, rfl⟩, fun y hy => ⟨fun z => if z = "f" then some y else if z = "t" then some (.int t) else none, fun z w e => ?_, fun C code A' c' q1 q2 q3 q4 q5 q6 => ?_⟩, fun H' W' => ?_⟩ E.k)) (E.st (by decide)) E.k)
  · exact mb2 (by rfl) I.ct (.inl rfl) z w e
  · obtain ⟨f, _, rfl⟩ := List.mem_map.mp hy
    refine eok_and_eq (eok_cmp (fact_item (i := 1) (f := f) rfl rfl rfl (fact_item (i := 0) (f := f) rfl rfl rfl (cmp_eq ⟨rfl, rfl⟩)))) (eok_and_eq (eok_cmp (fact_item (i := 0) (f := f) rfl rfl rfl (eok_binop (eok_binop (eok_int (eok_name (v := .int t) rfl (bin_mul (mul2 t) (eok_int (bin_sub (cmp_le ⟨rfl, rfl⟩)))))))))) (b2 := ((f.2.2.1 : Int) == 0 || (f.2.2.1 : Int) == (f.1 : Int) + 1)) ?_ ⟨rfl, rfl⟩) ⟨rfl, rfl⟩
    refine fun s G F => BoolOp_one ((?_ : EOk c' A' _ _ _ _ _) s G F)
    refine eok_cmp (fact_item (i := 2) (f := f) rfl rfl rfl (eok_tuple (esok_cons (eok_int (esok_cons (eok_binop (fact_item (i := 0) (f := f) rfl rfl rfl (eok_int (bin_add (esok_nil ⟨Nat.le_of_ble_eq_true rfl, cmp_in_tup (ns := [0, (f.1 : Int) + 1]) (by have := hA.u; simp [cLine]; omega) ⟨?_, rfl⟩⟩))))))))))
    congr 1
    rw [Bool.eq_iff_iff]; simp; omega
  rw [qBody_all]
  -- as_root
  have hb1 : shp t true T = ((factsT 0 T).all (bodyF t) && ((factsT 0 T).drop 1).all (geF t)) := shp_root t T 0
  have hFl := factsT_length T 0
  have hNw := nodes_wt T
  refine sok_cons (SOk.mono (Q := fun fl m1 H1 => C3 (fl = .next) (m1 = updM (updM m "body" (.bool ((factsT 0 T).all (bodyF t)))) "as_root" (.bool (shp t true T))) (∃ H2, Le H0 H2 ∧ Wt h₁ cc pt H1 H2 267)) (sok_assign (eok_and2 (eok_name (v := .bool ((factsT 0 T).all (bodyF t))) rfl ⟨_, rfl, ite_b (fun e => law_all hgp hA (by omega) P E hM (by decide) W' (by decide) (E.gc1 (z := "t") rfl) (eok_slice (eok_name I.ff (part_some (eok_int ⟨_, rfl, part_none ⟨rf, _, rfl, hF, by simp [sizeLine]; omega, fun r hr => ?_⟩⟩)) E.k))) (fun e => ⟨rfl, by rw [hb1, e]; rfl, H0, .refl _, W'.up (by decide)⟩)⟩ E.k)) (E.st (by decide)) E.k) ?_)
  · rw [show (1 : Int) = ((1 : Nat) : Int) from rfl, aslice_from]
    refine ⟨((factsT 0 T).drop 1).map fAV, qGe t, by simp only [iterItems, upd_self, List.map_drop], .inl ⟨_, rfl⟩, fun y hy => ⟨fun z => if z = "f" then some y else if z = "t" then some (.int t) else none, fun z w e => ?_, fun C code A' c' q1 q2 q3 q4 q5 q6 => ?_⟩, fun H' W'' => ⟨rfl, ?_, _, le_upd hr, W''⟩⟩
    · refine mb2 (x2 := "t") (q := L + 4) (cl := [("t", L + 4)]) (m := updM m "body" _) rfl I.ct (.inl rfl) z w e
    · obtain ⟨f, _, rfl⟩ := List.mem_map.mp hy
      exact eok_cmp (fact_item (i := 0) (f := f) rfl rfl rfl (eok_binop (eok_name (v := .int t) rfl (eok_int (bin_sub (cmp_ge ⟨rfl, rfl⟩))))))
    · rw [qGe_all, hb1, e]; rfl
  rintro fl _ H1' ⟨rfl, rfl, H1, le1, W1⟩
  have hF1 := le1 _ _ hF
  have hf0 : ∃ f0, (factsT 0 T)[0]? = some f0 := by
    obtain ⟨ks, vs, kids⟩ := T; exact ⟨_, rfl⟩
  obtain ⟨f0, hf0⟩ := hf0
  -- as_inner
  let RR1 : LM → AH → Prop := fun m2 H2 => m2 = updM (updM (updM m "body" (.bool ((factsT 0 T).all (bodyF t)))) "as_root" (.bool (shp t true T))) "as_inner" (.bool (shp t false T)) ∧ H1 = H2
  refine sok_blk RR1 W1
    (sok_assign (eok_and2_eq (b1 := shp t true T) (b2 := geF t f0) (eok_name rfl ⟨rfl, rfl⟩ E.k) (eok_cmp (eok_item_tup (eok_item_lst (eok_name I.ff (eok_int ⟨rf, _, _, fAV f0, rfl, rfl, hF1, by decide, by decide, by simp [hf0], eok_int ⟨_, _, .int f0.1, rfl, rfl, by decide, by decide, rfl, eok_binop (eok_name I.ct (eok_int (bin_sub (cmp_ge ⟨rfl, rfl⟩))) E.k)⟩⟩) E.k)))) ⟨rfl, by rw [shp_inner t T 0 f0 hf0], rfl⟩) (E.st (by decide)) E.k) ?_
  rintro _ _ H2' ⟨rfl, rfl⟩ W2
  clear RR1
  -- crowded
  refine sok_cons (sok_assign (law_any hgp hA (by omega) P E hM (by decide) W2 (by decide) E.gc0 (eok_name I.ff ⟨(factsT 0 T).map fAV, qCr, by simp only [iterItems, hF1], .inl ⟨_, rfl⟩, fun y hy => ⟨fun z => if z = "f" then some y else none, fun z w e => ?_, fun C code A' c' q1 q2 q3 q4 q5 q6 => ?_⟩, fun H' W3 => ?_⟩ E.k)) (E.st (by decide)) E.k)
  · exact mb1 z w e
  · obtain ⟨f, _, rfl⟩ := List.mem_map.mp hy
    exact eok_cmp (fact_item (i := 2) (f := f) rfl rfl rfl (eok_binop (fact_item (i := 0) (f := f) rfl rfl rfl (eok_int (bin_add (cmp_gt ⟨rfl, rfl⟩))))))
  rw [qCr_any, show ((factsT 0 T).any fun f => decide ((f.2.2.1 : Int) > (f.1 : Int) + 1)) = !nc T by rw [nc_facts T 0]; simp]
  have mA : ∃ mA : LM, mA = updM (updM (updM (updM m "body" (.bool ((factsT 0 T).all (bodyF t)))) "as_root" (.bool (shp t true T))) "as_inner" (.bool (shp t false T))) "crowded" (.bool (!nc T)) := ⟨_, rfl⟩
  obtain ⟨mA, hmA⟩ := mA
  rw [← hmA]
  have IA : BIn mA ns t bs x ri rf rs := by subst hmA; exact ⟨I.script, I.ct, I.base, I.root, I.fi, I.ff, I.fs⟩
  have mAr : mA "as_root" = some (.bool (shp t true T)) := by subst hmA; rfl
  have mAi : mA "as_inner" = some (.bool (shp t false T)) := by subst hmA; rfl
  have mAc : mA "crowded" = some (.bool (!nc T)) := by subst hmA; rfl
  clear hmA I W W1 W2 W'
  have hL1 := hL.mono le1
  clear hL hF le1
  -- depths
  have hDne : 0 < (leafD 0 T).length := List.length_pos_iff.mpr (leafD_ne T 0)
  have hd0 := hgt_leaf T 0
  rw [Int.zero_add] at hd0
  let RR2 : LM → AH → Prop := fun m2 H2 => ∃ dl, C3 (m2 = updM mA "depths" (.ref dl)) (Le H1 H2) (H2 dl = some (.lst ((leafD 0 T).map .int)))
  refine sok_blk RR2 W3
    (sok_assign_comp (cl := []) hA.h E.cl0 (eok_name IA.ff ⟨(factsT 0 T).map fAV, fPz, fGd, by simp only [iterItems, hF1], by simp [sizeLine]; omega, fun C D zs y hD hy => ?_, fun C D zs y hD hy _ => ?_, fun D hD => ⟨rfl, D, rfl, le_upd hD, ?_⟩⟩ E.k) (swaps_comp E.k (E.l _ (by simp [lawL]))) (E.st (by decide)) E.k) ?_
  · obtain ⟨f, _, rfl⟩ := List.mem_map.mp hy
    exact tests_one (tok_cmp (fact_item (i := 2) (f := f) (by simp [updM]) rfl rfl (eok_int (cmp_eq ⟨_, rfl, rfl, rfl⟩))))
  · obtain ⟨f, _, rfl⟩ := List.mem_map.mp hy
    exact fact_item (i := 3) (f := f) (by simp [updM]) rfl rfl ⟨rfl, rfl⟩
  · rw [upd_self, filter_facts, leafD_facts]
  rintro _ H2 H2' ⟨dl, rfl, le2, hD2⟩ W4
  clear RR2
  -- level
  let RR3 : LM → AH → Prop := fun m3 H3 => m3 = updM (updM mA "depths" (.ref dl)) "level" (.int (hgt T)) ∧ H2 = H3
  refine sok_blk RR3 W4
    (sok_assign (eok_item_lst (eok_name (v := .ref dl) rfl (eok_int ⟨dl, _, _, .int (hgt T), rfl, rfl, hD2, by decide, by decide, by simp [hd0], rfl, rfl, rfl⟩) E.k)) (E.st (by decide)) E.k) ?_
  rintro _ _ H3' ⟨rfl, rfl⟩ W5
  clear RR3
  have gmx : GName c env "max" (.builtin "max") := E.bn P (by repeat (first | exact List.Mem.head _ | apply List.Mem.tail)) (by decide)
  have gmn : GName c env "min" (.builtin "min") := E.bn P (by repeat (first | exact List.Mem.head _ | apply List.Mem.tail)) (by decide)
  have gsm : GName c env "sum" (.builtin "sum") := E.bn P (by repeat (first | exact List.Mem.head _ | apply List.Mem.tail)) (by decide)
  have gln : GName c env "len" (.builtin "len") := E.bn P (by repeat (first | exact List.Mem.head _ | apply List.Mem.tail)) (by decide)
  have grg : GName c env "range" (.type "range") := E.bn P (by repeat (first | exact List.Mem.head _ | apply List.Mem.tail)) (by decide)
  let RR4 : LM → AH → Prop := fun m3 H3 => m3 = updM (updM (updM mA "depths" (.ref dl)) "level" (.int (hgt T))) "level" (.int (levOf (leafD 0 T))) ∧ H2 = H3
  refine sok_blk RR4 W5
    (sok_if_setU (v0 := .int (hgt T)) (v1 := .int (-1)) (bv := bestOf (fun x y => decide (x > y)) (leafD 0 T) != bestOf (fun x y => decide (x < y)) (leafD 0 T)) rfl (tok_cmp (eok_callB gmx (esok_cons (eok_name (v := .ref dl) rfl (esok_nil (cok_max hA.h hD2 hDne (eok_callB gmn (esok_cons (eok_name (v := .ref dl) rfl (esok_nil (cok_min hA.h hD2 hDne (cmp_ne ⟨_, rfl, rfl, rfl⟩))) E.k))))) E.k)))) (fun _ => eok_neg (eok_int ⟨_, rfl, rfl, rfl⟩)) (E.st (by decide)) E.k ⟨rfl, ?_, rfl⟩) ?_
  · rw [levOf_max hd0]
    by_cases e : (bestOf (fun x y => decide (x > y)) (leafD 0 T) != bestOf (fun x y => decide (x < y)) (leafD 0 T)) = true
    · rw [if_pos e, if_pos e]
    · rw [if_neg e, if_neg e]
  rintro _ _ H3' ⟨rfl, rfl⟩ W6
  clear RR4
  -- count
  have hcw := cnt_wt T
  have hns0 : ∀ z ∈ (factsT 0 T).map (fun f => (f.1 : Int)), 0 ≤ z := fun z hz => by obtain ⟨f, _, rfl⟩ := List.mem_map.mp hz; exact Int.natCast_nonneg _
  have hcs := cnt_facts T 0
  let RR5 : LM → AH → Prop := fun m3 H3 => m3 = updM (updM (updM (updM mA "depths" (.ref dl)) "level" (.int (hgt T))) "level" (.int (levOf (leafD 0 T)))) "count" (.int (cnt T)) ∧ Le H2 H3
  refine sok_blk RR5 W6
    (sok_assign (eok_callB gsm (esok_cons (eok_comp (cl := []) hA.h E.cl0 (eok_name IA.ff ⟨(factsT 0 T).map fAV, (fun _ => true), fGn, by simp only [iterItems, le2 _ _ hF1], by simp [sizeLine]; omega, fun C D zs y hD hy => tests_nil ⟨rfl, rfl⟩, fun C D zs y hD hy _ => ?_, fun D hD => esok_nil (cok_sum (ns := (factsT 0 T).map fun f => (f.1 : Int)) hA.h (.inl ⟨D, rfl, ?_⟩) (fun j hj => ?_) ⟨rfl, by rw [hcs], le_upd hD⟩)⟩ E.k)))) (E.st (by decide)) E.k) ?_
  · obtain ⟨f, _, rfl⟩ := List.mem_map.mp hy
    exact fact_item (i := 0) (f := f) (by simp [updM]) rfl rfl ⟨rfl, rfl⟩
  · rw [upd_self, map_facts]
  · have h1 := sum_le hns0 (j + 1)
    have h2 := elt_le hns0 j hj
    rw [← hcs] at h1 h2
    unfold InLong
    refine ⟨?_, ?_⟩ <;> omega
  rintro _ H4 H4' ⟨rfl, le4⟩ W7
  clear RR5
  have hL4 := (hL1.mono le2).mono le4
  have hS4 : H4 rs = some (.lst ((seqT T).map .int)) := hL4.fs
  have hD4 := le4 _ _ hD2
  obtain ⟨mB, hmB⟩ : ∃ mB : LM, mB = updM (updM (updM (updM mA "depths" (.ref dl)) "level" (.int (hgt T))) "level" (.int (levOf (leafD 0 T)))) "count" (.int (cnt T)) := ⟨_, rfl⟩
  rw [← hmB]
  have IB : BIn mB ns t bs x ri rf rs := by subst hmB; exact ⟨IA.script, IA.ct, IA.base, IA.root, IA.fi, IA.ff, IA.fs⟩
  have mBr : mB "as_root" = some (.bool (shp t true T)) := by subst hmB; exact mAr
  have mBi : mB "as_inner" = some (.bool (shp t false T)) := by subst hmB; exact mAi
  have mBc : mB "crowded" = some (.bool (!nc T)) := by subst hmB; exact mAc
  have mBd : mB "depths" = some (.ref dl) := by subst hmB; rfl
  have mBl : mB "level" = some (.int (levOf (leafD 0 T))) := by subst hmB; rfl
  have mBn : mB "count" = some (.int (cnt T)) := by subst hmB; rfl
  clear hmB IA mAr mAi mAc W3 W4 W5 W6 hL1 hF1 hD2 le2 le4
  -- ordered
  have hSl := seqT_length T
  have hgS : ∀ i, i < (seqT T).length → (seqT T)[i]? = some ((seqT T).getD i 0) := fun i hi => by simp [hi]
  refine sok_cons (sok_assign (law_all hgp hA (by omega) P E hM (by decide) W7 (by decide) (E.gc1 (z := "seq") rfl) (eok_callT grg (esok_cons (eok_binop (eok_callB gln (esok_cons (eok_name IB.fs ?_ E.k))))))) (E.st (by decide)) E.k)
  refine esok_nil (cok_len (n := (seqT T).length) (by rw [alen_lst hS4]; simp) (by omega) (eok_int (bin_sub (esok_nil (cok_range1 (by omega) (by omega) ?_)))))
  refine ⟨_, qOrd (seqT T), rfl, .inr ⟨_, _, _, rfl⟩, fun y hy => ⟨fun z => if z = "i" then some y else if z = "seq" then some (.fro (seqT T)) else none, fun z w e => ?_, fun C code A' c' q1 q2 q3 q4 q5 q6 => ?_⟩, fun H' W8 => ?_⟩
  · exact mb2 (by rfl) IB.fs (.inr ⟨rs, _, rfl, hS4, rfl⟩) z w e
  · obtain ⟨i, hi, rfl⟩ := List.mem_map.mp hy
    have hi := List.mem_range.mp hi
    have ei : (0 + (i : Int) * 1) = (i : Int) := by omega
    rw [ei]
    refine eok_cmp (eok_item_fro (eok_name (v := .fro (seqT T)) rfl (eok_name (v := .int (i : Int)) rfl ⟨_, _, _, rfl, rfl, by omega, by omega, hgS i (by omega), eok_item_fro (eok_name (v := .fro (seqT T)) rfl (eok_binop (eok_name (v := .int (i : Int)) rfl (eok_int (bin_add ⟨_, _, (seqT T).getD (i + 1) 0, rfl, rfl, by omega, by omega, ?_, cmp_lt ⟨rfl, rfl⟩⟩)))))⟩)))
    rw [show ((i : Int) + 1).toNat = i + 1 by omega]
    exact hgS (i + 1) (by omega)
  rw [qOrd_all (seqT T) _ (by omega)]
  -- sound
  let RR6 : LM → AH → Prop := fun m3 H3 => m3 = updM (updM mB "ordered" (.bool (ordB (seqT T)))) "sound" (.bool (shp t true T && (ordB (seqT T) && decide (levOf (leafD 0 T) ≥ 0)))) ∧ H4 = H3
  refine sok_blk RR6 W8
    (sok_assign (eok_and_eq (eok_name mBr ⟨rfl, rfl⟩ E.k) (eok_and2_eq (eok_name (v := .bool (ordB (seqT T))) rfl ⟨rfl, rfl⟩ E.k) (eok_cmp (eok_name mBl (eok_int (cmp_ge ⟨rfl, rfl⟩)) E.k)) ⟨rfl, rfl⟩) ⟨rfl, rfl, rfl⟩) (E.st (by decide)) E.k) ?_
  rintro _ _ H5' ⟨rfl, rfl⟩ W9
  clear RR6
  have hscr : ∀ {m' : LM} {H' : AH} {p1 p2 p3 : Pos} {k0 i : Nat} {Q' : AV → AH → Prop}, m' "script" = some (.fro ns) → i < 17 → Q' (.int (ns.getD i 0)) H' → EOk c A env (.Subscript (.Name "script" p1) (.Constant (.int (i : Int)) k0 p2) p3) m' H' Q' := by
    intro m' H' p1 p2 p3 k0 i Q' hm hi hq
    have hi' : i < ns.length := by omega
    exact eok_item_fro (eok_name hm (eok_int ⟨_, _, ns.getD i 0, rfl, rfl, by omega, by omega, by simp [hi'], hq⟩) E.k)
  -- low
  let RR7 : LM → AH → Prop := fun m3 H3 => m3 = updM (updM (updM mB "ordered" (.bool (ordB (seqT T)))) "sound" (.bool (shp t true T && (ordB (seqT T) && decide (levOf (leafD 0 T) ≥ 0))))) "low" .none ∧ H4 = H3
  refine sok_blk RR7 W9
    (sok_assign (eok_none ⟨rfl, rfl, rfl⟩) (E.stc rfl) E.k) ?_
  rintro _ _ H6' ⟨rfl, rfl⟩ W10
  clear RR7
  obtain ⟨lo, hlo⟩ : ∃ lo : Option Int, (if decide ((ns.getD 14 0).fmod 4 > 0) = true then AV.int (bs - 2 + (ns.getD 14 0).fmod 4) else .none) = oi lo := by
    by_cases e : decide ((ns.getD 14 0).fmod 4 > 0) = true
    · exact ⟨some _, by rw [if_pos e]; rfl⟩
    · exact ⟨none, by rw [if_neg e]; rfl⟩
  let RR8 : LM → AH → Prop := fun m3 H3 => m3 = updM (updM (updM (updM mB "ordered" (.bool (ordB (seqT T)))) "sound" (.bool (shp t true T && (ordB (seqT T) && decide (levOf (leafD 0 T) ≥ 0))))) "low" .none) "low" (oi lo) ∧ H4 = H3
  refine sok_blk RR8 W10
    (sok_if_setU (v0 := .none) (v1 := .int (bs - 2 + (ns.getD 14 0).fmod 4)) (bv := decide ((ns.getD 14 0).fmod 4 > 0)) rfl (tok_cmp (eok_binop (hscr (i := 14) IB.script (by decide) (eok_int (bin_mod (by decide) (eok_int (cmp_gt ⟨_, rfl, rfl, rfl⟩))))))) (fun _ => eok_binop (eok_binop (eok_name IB.base (eok_int (bin_sub (eok_binop (hscr (i := 14) IB.script (by decide) (eok_int (bin_mod (by decide) (bin_add ⟨rfl, rfl⟩))))))) E.k))) (E.stc rfl) E.k ⟨rfl, by rw [hlo], rfl⟩) ?_
  rintro _ _ H7' ⟨rfl, rfl⟩ W11
  clear RR8
  -- high
  let RR9 : LM → AH → Prop := fun m3 H3 => m3 = updM (updM (updM (updM (updM mB "ordered" (.bool (ordB (seqT T)))) "sound" (.bool (shp t true T && (ordB (seqT T) && decide (levOf (leafD 0 T) ≥ 0))))) "low" .none) "low" (oi lo)) "high" .none ∧ H4 = H3
  refine sok_blk RR9 W11
    (sok_assign (eok_none ⟨rfl, rfl, rfl⟩) (E.stc rfl) E.k) ?_
  rintro _ _ H8' ⟨rfl, rfl⟩ W12
  clear RR9
  obtain ⟨hi, hhi⟩ : ∃ hi : Option Int, (if decide ((ns.getD 15 0).fmod 4 > 0) = true then AV.int (bs + 2 * cnt T - (ns.getD 15 0).fmod 4) else .none) = oi hi := by
    by_cases e : decide ((ns.getD 15 0).fmod 4 > 0) = true
    · exact ⟨some _, by rw [if_pos e]; rfl⟩
    · exact ⟨none, by rw [if_neg e]; rfl⟩
  let RR10 : LM → AH → Prop := fun m3 H3 => m3 = updM (updM (updM (updM (updM (updM mB "ordered" (.bool (ordB (seqT T)))) "sound" (.bool (shp t true T && (ordB (seqT T) && decide (levOf (leafD 0 T) ≥ 0))))) "low" .none) "low" (oi lo)) "high" .none) "high" (oi hi) ∧ H4 = H3
  refine sok_blk RR10 W12
    (sok_if_setU (v0 := .none) (v1 := .int (bs + 2 * cnt T - (ns.getD 15 0).fmod 4)) (bv := decide ((ns.getD 15 0).fmod 4 > 0)) rfl (tok_cmp (eok_binop (hscr (i := 15) IB.script (by decide) (eok_int (bin_mod (by decide) (eok_int (cmp_gt ⟨_, rfl, rfl, rfl⟩))))))) (fun _ => eok_binop (eok_binop (eok_name IB.base (eok_binop (eok_int (eok_name mBn (bin_mul (mul2 _) (bin_add (eok_binop (hscr (i := 15) IB.script (by decide) (eok_int (bin_mod (by decide) (bin_sub ⟨rfl, rfl⟩))))))) E.k))) E.k))) (E.stc rfl) E.k ⟨rfl, by rw [hhi], rfl⟩) ?_
  rintro _ _ H9' ⟨rfl, rfl⟩ W13
  clear RR10
  obtain ⟨mC, hmC⟩ : ∃ mC : LM, mC = updM (updM (updM (updM (updM (updM mB "ordered" (.bool (ordB (seqT T)))) "sound" (.bool (shp t true T && (ordB (seqT T) && decide (levOf (leafD 0 T) ≥ 0))))) "low" .none) "low" (oi lo)) "high" .none) "high" (oi hi) := ⟨_, rfl⟩
  rw [← hmC]
  have IC : BIn mC ns t bs x ri rf rs := by subst hmC; exact ⟨IB.script, IB.ct, IB.base, IB.root, IB.fi, IB.ff, IB.fs⟩
  have mCr : mC "as_root" = some (.bool (shp t true T)) := by subst hmC; exact mBr
  have mCi : mC "as_inner" = some (.bool (shp t false T)) := by subst hmC; exact mBi
  have mCc : mC "crowded" = some (.bool (!nc T)) := by subst hmC; exact mBc
  have mCd : mC "depths" = some (.ref dl) := by subst hmC; exact mBd
  have mCl : mC "level" = some (.int (levOf (leafD 0 T))) := by subst hmC; exact mBl
  have mCn : mC "count" = some (.int (cnt T)) := by subst hmC; exact mBn
  have mCo : mC "ordered" = some (.bool (ordB (seqT T))) := by subst hmC; rfl
  have mCs : mC "sound" = some (.bool (shp t true T && (ordB (seqT T) && decide (levOf (leafD 0 T) ≥ 0)))) := by subst hmC; rfl
  have mClo : mC "low" = some (oi lo) := by subst hmC; rfl
  have mChi : mC "high" = some (oi hi) := by subst hmC; rfl
  clear hmC IB mBr mBi mBc mBd mBl mBn W7 W8 W9 W10 W11 W12
  -- above
  refine sok_cons (sok_assign (law_all hgp hA (by omega) P E hM (by decide) W13 (by decide) (E.gc1 (z := "low") rfl) (eok_name IC.fs ⟨(seqT T).map .int, qLo lo, by simp only [iterItems, hS4], .inl ⟨_, rfl⟩, fun y hy => ⟨fun z => if z = "k" then some y else if z = "low" then some (oi lo) else none, fun z w e => ?_, fun C code A' c' q1 q2 q3 q4 q5 q6 => ?_⟩, fun H' W14 => ?_⟩ E.k)) (E.st (by decide)) E.k)
  · exact mb2 (by rfl) mClo (.inl rfl) z w e
  · obtain ⟨kk, _, rfl⟩ := List.mem_map.mp hy
    refine eok_or2_eq (b2 := loOk lo kk) (eok_cmp (eok_name (v := oi lo) rfl (eok_none (cmp_is_none ⟨rfl, rfl⟩)))) (fun e => ?_) ⟨?_, rfl⟩
    · cases lo with
      | none => simp [isNone, oi] at e
      | some l => exact eok_cmp (eok_name (v := .int l) rfl (eok_name (v := .int kk) rfl (cmp_lt ⟨rfl, rfl⟩)))
    · cases lo <;> rfl
  rw [qLo_all]
  -- within
  refine sok_cons (SOk.mono (Q := fun fl m1 H1 => C3 (fl = .next) (m1 = updM (updM mC "above" (.bool ((seqT T).all (loOk lo)))) "within" (.bool (ordB (seqT T) && ((seqT T).all (loOk lo) && (seqT T).all (hiOk hi))))) (Wt h₁ cc pt H1 H4 284)) (sok_assign (eok_and_cons (eok_name mCo ⟨_, rfl, ite_b (fun e1 => eok_and2 (eok_name (v := .bool ((seqT T).all (loOk lo))) rfl ⟨_, rfl, ite_b (fun e2 => law_all hgp hA (by omega) P E hM (by decide) W14 (by decide) (E.gc1 (z := "high") rfl) (eok_name IC.fs ⟨(seqT T).map .int, qHi hi, by simp only [iterItems, hS4], .inl ⟨_, rfl⟩, fun y hy => ⟨fun z => if z = "k" then some y else if z = "high" then some (oi hi) else none, fun z w e => ?_, fun C code A' c' q1 q2 q3 q4 q5 q6 => ?_⟩, fun H' W15 => ⟨rfl, by rw [qHi_all, e1, e2]; rfl, W15⟩⟩ E.k)) (fun e2 => ⟨rfl, by rw [e1, e2]; rfl, W14.up (by decide)⟩)⟩ E.k)) (fun e1 => ⟨rfl, by rw [e1]; rfl, W14.up (by decide)⟩)⟩ E.k)) (E.st (by decide)) E.k) ?_)
  · refine mb2 (x2 := "high") (q := L + 1) (cl := [("high", L + 1)]) (m := updM mC "above" _) rfl mChi (.inl rfl) z w e
  · obtain ⟨kk, _, rfl⟩ := List.mem_map.mp hy
    refine eok_or2_eq (b2 := hiOk hi kk) (eok_cmp (eok_name (v := oi hi) rfl (eok_none (cmp_is_none ⟨rfl, rfl⟩)))) (fun e => ?_) ⟨?_, rfl⟩
    · cases hi with
      | none => simp [isNone, oi] at e
      | some l => exact eok_cmp (eok_name (v := .int kk) rfl (eok_name (v := .int l) rfl (cmp_lt ⟨rfl, rfl⟩)))
    · cases hi <;> rfl
  rintro fl _ H11' ⟨rfl, rfl, W16⟩
  -- claim
  let RR11 : LM → AH → Prop := fun m3 H3 => m3 = updM (updM (updM mC "above" (.bool ((seqT T).all (loOk lo)))) "within" (.bool (ordB (seqT T) && ((seqT T).all (loOk lo) && (seqT T).all (hiOk hi))))) "claim" (.int (cnt T - 1 + (ns.getD 16 0).fmod 3)) ∧ H4 = H3
  refine sok_blk RR11 W16
    (sok_assign (eok_binop (eok_binop (eok_name mCn (eok_int (bin_sub (eok_binop (hscr (i := 16) IC.script (by decide) (eok_int (bin_mod (by decide) (bin_add ⟨rfl, rfl, rfl⟩))))))) E.k))) (E.st (by decide)) E.k) ?_
  rintro _ _ H12' ⟨rfl, rfl⟩ W17
  clear RR11
  exact partC (lev := levOf (leafD 0 T)) hgp hA hk P E hM W17 (by decide) ⟨IC.ct, IC.root, IC.fi, mCr, mCi, mCs, mCc, mCd, mCl, mCn, mCo, rfl, mClo, mChi, rfl⟩ ht rfl hL4 hD4 hsz
end
end Mine
namespace Mine
open PySem PySem.W PySem.Calls PyProof.Rows

structure ShOk (gs : List Nat) : Prop where
  one : ∀ g ∈ gs, 1 ≤ g
  six : gs.sum ≤ 6
  len : gs.length = 1 ∨ gs.length = 2
theorem shape_at : ∀ n : Nat, n < 7 → ∃ gs : List Nat, (SHAPES.map aInts)[n]? = some (aInts (gs.map fun n : Nat => (n : Int))) ∧ ShOk gs
  | 0, _ => ⟨[1], rfl, by decide, by decide, by decide⟩
  | 1, _ => ⟨[2], rfl, by decide, by decide, by decide⟩
  | 2, _ => ⟨[3], rfl, by decide, by decide, by decide⟩
  | 3, _ => ⟨[2, 2], rfl, by decide, by decide, by decide⟩
  | 4, _ => ⟨[3, 1], rfl, by decide, by decide, by decide⟩
  | 5, _ => ⟨[1, 3], rfl, by decide, by decide, by decide⟩
  | 6, _ => ⟨[3, 3], rfl, by decide, by decide, by decide⟩
  | n + 7, h => by omega
theorem sum_cast : ∀ gs : List Nat, (gs.map fun n : Nat => (n : Int)).sum = (gs.sum : Nat)
  | [] => rfl
  | g :: gs => by simp [sum_cast gs]
theorem ge_one : ∀ {gs : List Nat}, (∀ g ∈ gs, 1 ≤ g) → gs.length ≤ gs.sum
  | [], _ => by simp
  | g :: gs, h => by
    have h1 := h g (by simp)
    have h2 := ge_one (gs := gs) fun x hx => h x (by simp [hx])
    simp; omega
theorem sum_ge : ∀ {ns : List Int}, (∀ x ∈ ns, 1 ≤ x) → (ns.length : Int) ≤ ns.sum
  | [], _ => by simp
  | n :: ns, h => by
    have h1 := h n (by simp)
    have h2 := sum_ge (ns := ns) fun x hx => h x (by simp [hx])
    simp; omega
theorem elt_sum {ns : List Nat} : ∀ x ∈ ns, x ≤ ns.sum := fun x hx => by
  induction ns with
  | nil => simp at hx
  | cons n ns ih =>
    rcases List.mem_cons.mp hx with rfl | hx
    · simp
    · have := ih hx; simp; omega

section
variable {c : Cx} {A : Around} {env : Env} {m : LM} {H : AH} {Q : AV → AH → Prop} {K : Frag} {a : Ads} {ls gs : List Str} {L cc pt : Addr} {h₁ : Heap} {H0 : AH} {n : Nat} {bm : Addr} {ob : Obj} {mg : Str → Option Value}

theorem law_ok {k : Nat} {ns : List Int} (hgp : ∀ g d, c.gp g d ↔ AllBare g) (hA : AOk k A) (hk : k < 30) (P : Prog c K a) (E : LawE c env L cc lawL lawG) (hM : BMod c.b mainGlobals mg bm ob) (W : Wt h₁ cc pt H H0 n) (hn : n < 266) (hm : m "script" = some (.fro ns)) (hns : ns.length ≤ 63) :
    SOk c A env (execs lawF.body env) m H (fun fl _ H' => fl = .ret (.bool true) ∧ ∃ H1 n, Wt h₁ cc pt H' H1 n) := by
  have gln : GName c env "len" (.builtin "len") := E.bn P (by repeat (first | exact List.Mem.head _ | apply List.Mem.tail)) (by decide)
  have gsm : GName c env "sum" (.builtin "sum") := E.bn P (by repeat (first | exact List.Mem.head _ | apply List.Mem.tail)) (by decide)
  have gS : GName c env "_law_SHAPES" (.ref a.shapes) := E.gn P (by repeat (first | exact List.Mem.head _ | apply List.Mem.tail)) (by decide)
  have g1 : GName c env "_law_sizes" (.ref a.lSizes) := E.gn P (by repeat (first | exact List.Mem.head _ | apply List.Mem.tail)) (by decide)
  have g2 : GName c env "_law_row" (.ref a.lRow) := E.gn P (by repeat (first | exact List.Mem.head _ | apply List.Mem.tail)) (by decide)
  have g3 : GName c env "_law_tree" (.ref a.lTree) := E.gn P (by repeat (first | exact List.Mem.head _ | apply List.Mem.tail)) (by decide)
  refine sok_cons (sok_lift W (sok_if_eq (bv := decide ((ns.length : Int) < 17)) (tok_cmp (eok_callB gln (esok_cons (eok_name hm (esok_nil (cok_len (n := ns.length) rfl (by omega) (eok_int (cmp_lt ⟨_, rfl, rfl, rfl⟩)))) E.k)))) (fun e => sok_cons (sok_return (eok_bool fun H' W' => ⟨rfl, _, _, W'⟩))) (fun e => sok_nil fun H' W1 => ?_)))
  have h17 : 17 ≤ ns.length := by have : ¬ (ns.length : Int) < 17 := by simpa using e
                                  omega
  clear W
  have hscr : ∀ {m' : LM} {H' : AH} {p1 p2 p3 : Pos} {k0 i : Nat} {Q' : AV → AH → Prop}, m' "script" = some (.fro ns) → i < 17 → Q' (.int (ns.getD i 0)) H' → EOk c A env (.Subscript (.Name "script" p1) (.Constant (.int (i : Int)) k0 p2) p3) m' H' Q' := by
    intro m' H' p1 p2 p3 k0 i Q' hm hi hq
    have hi' : i < ns.length := by omega
    exact eok_item_fro (eok_name hm (eok_int ⟨_, _, ns.getD i 0, rfl, rfl, by omega, by omega, by simp [hi'], hq⟩) E.k)
  have fm : ∀ (x : Int) {b : Int}, 0 < b → 0 ≤ x.fmod b ∧ x.fmod b < b := fun x b hb => ⟨Int.fmod_nonneg_of_pos x hb, Int.fmod_lt_of_pos x hb⟩
  -- t
  obtain ⟨t, ht⟩ : ∃ t, t = 2 + (ns.getD 0 0).fmod 2 := ⟨_, rfl⟩
  have ht23 : t = 2 ∨ t = 3 := by have := fm (ns.getD 0 0) (b := 2) (by decide); omega
  let RR1 : LM → AH → Prop := fun m3 H3 => m3 = updM m "t" (.int t) ∧ H0 = H3
  refine sok_blk RR1 W1
    (sok_assign (eok_binop (eok_int (eok_binop (hscr (i := 0) hm (by decide) (eok_int (bin_mod (by decide) (bin_add ⟨rfl, by rw [ht], rfl⟩))))))) (E.stc rfl) E.k) ?_
  rintro _ _ H2' ⟨rfl, rfl⟩ W2
  clear RR1
  -- shape
  have f1 := fm (ns.getD 1 0) (b := 7) (by decide)
  obtain ⟨gs, hgs, hG⟩ := shape_at ((ns.getD 1 0).fmod 7).toNat (by omega)
  let RR2 : LM → AH → Prop := fun m3 H3 => m3 = updM (updM m "t" (.int t)) "shape" (aInts (gs.map fun n : Nat => (n : Int))) ∧ H0 = H3
  refine sok_blk RR2 W2
    (sok_assign (eok_item_tup (eok_gname gS P.shapes (eok_binop (hscr (i := 1) hm (by decide) (eok_int (bin_mod (by decide) ⟨_, _, _, rfl, rfl, f1.1, by omega, hgs, rfl, rfl, rfl⟩)))))) (E.st (by decide)) E.k) ?_
  rintro _ _ H3' ⟨rfl, rfl⟩ W3
  clear RR2
  -- kind
  obtain ⟨kind, hkd⟩ : ∃ kind, kind = (ns.getD 2 0).fmod 12 := ⟨_, rfl⟩
  have f2 := fm (ns.getD 2 0) (b := 12) (by decide)
  rw [← hkd] at f2
  let RR3 : LM → AH → Prop := fun m3 H3 => m3 = updM (updM (updM m "t" (.int t)) "shape" (aInts (gs.map fun n : Nat => (n : Int)))) "kind" (.int kind) ∧ H0 = H3
  refine sok_blk RR3 W3
    (sok_assign (eok_binop (hscr (i := 2) hm (by decide) (eok_int (bin_mod (by decide) ⟨rfl, by rw [hkd], rfl⟩)))) (E.st (by decide)) E.k) ?_
  rintro _ _ H4' ⟨rfl, rfl⟩ W4
  clear RR3
  -- total
  have hgsum := ge_one hG.one
  have h6 := hG.six
  have hlen := hG.len
  have hn0 : ∀ z ∈ gs.map (fun n : Nat => (n : Int)), 0 ≤ z := fun z hz => by obtain ⟨f, _, rfl⟩ := List.mem_map.mp hz; exact Int.natCast_nonneg _
  have hsc := sum_cast gs
  let RR4 : LM → AH → Prop := fun m3 H3 => m3 = updM (updM (updM (updM m "t" (.int t)) "shape" (aInts (gs.map fun n : Nat => (n : Int)))) "kind" (.int kind)) "total" (.int (gs.sum : Nat)) ∧ H0 = H3
  refine sok_blk RR4 W4
    (sok_assign (eok_callB gsm (esok_cons (eok_name (v := aInts (gs.map fun n : Nat => (n : Int))) rfl (esok_nil (cok_sum (ns := gs.map fun n : Nat => (n : Int)) hA.h (.inr rfl) (fun j hj => ?_) ⟨rfl, by rw [hsc], rfl⟩)) E.k))) (E.st (by decide)) E.k) ?_
  · have h1 := sum_le hn0 (j + 1)
    have h2 := elt_le hn0 j hj
    rw [hsc] at h1 h2
    unfold InLong
    refine ⟨?_, ?_⟩ <;> omega
  rintro _ _ H5' ⟨rfl, rfl⟩ W5
  clear RR4
  obtain ⟨mA, hmA⟩ : ∃ mA : LM, mA = updM (updM (updM (updM m "t" (.int t)) "shape" (aInts (gs.map fun n : Nat => (n : Int)))) "kind" (.int kind)) "total" (.int (gs.sum : Nat)) := ⟨_, rfl⟩
  rw [← hmA]
  have mAs : mA "script" = some (.fro ns) := by subst hmA; exact hm
  have mAt : mA "t" = some (.int t) := by subst hmA; rfl
  have mAh : mA "shape" = some (aInts (gs.map fun n : Nat => (n : Int))) := by subst hmA; rfl
  have mAk : mA "kind" = some (.int kind) := by subst hmA; rfl
  have mAo : mA "total" = some (.int (gs.sum : Nat)) := by subst hmA; rfl
  clear hmA W1 W2 W3 W4 hm
  -- cells
  let RR5 : LM → AH → Prop := fun m3 H3 => ∃ r, C3 (m3 = updM mA "cells" (.ref r)) (Le H0 H3) (H3 r = some (.lst ([ns.getD 3 0, ns.getD 4 0, ns.getD 5 0, ns.getD 6 0, ns.getD 7 0, ns.getD 8 0].map .int)))
  refine sok_blk RR5 W5
    (sok_assign (eok_list (esok_cons (hscr (i := 3) mAs (by decide) (esok_cons (hscr (i := 4) mAs (by decide) (esok_cons (hscr (i := 5) mAs (by decide) (esok_cons (hscr (i := 6) mAs (by decide) (esok_cons (hscr (i := 7) mAs (by decide) (esok_cons (hscr (i := 8) mAs (by decide) (esok_nil ⟨Nat.le_of_ble_eq_true rfl, fun r hr => ⟨rfl, r, rfl, le_upd hr, upd_self _ _ _⟩⟩))))))))))))) ) (E.st (by decide)) E.k) ?_
  rintro _ H1 H6' ⟨rc, rfl, le1, hc1⟩ W6
  clear RR5
  -- sizes
  have hg0 : 0 < gs.sum := by omega
  have f9 := fm (ns.getD 9 0) (b := (gs.sum : Nat)) (by omega)
  obtain ⟨place, hplace⟩ : ∃ p : Nat, (ns.getD 9 0).fmod (gs.sum : Nat) = p := ⟨((ns.getD 9 0).fmod (gs.sum : Nat)).toNat, by omega⟩
  let RR6 : LM → AH → Prop := fun m3 H3 => ∃ (r : Addr) (S : List Int), C4 (m3 = updM (updM mA "cells" (.ref rc)) "sizes" (.ref r)) (Le H1 H3) (H3 r = some (.lst (S.map .int))) (SzOk kind gs.sum S)
  refine sok_blk RR6 W6
    (sok_assign (eok_fn P g1 P.lSizes (esok_cons (eok_name mAt (esok_cons (eok_name mAo (esok_cons (eok_name (v := .ref rc) rfl (esok_cons (eok_name mAk (esok_cons (eok_binop (hscr (i := 9) mAs (by decide) (eok_name mAo (bin_mod (by omega) (esok_nil ?_)) E.k)))) E.k)) E.k)) E.k)) E.k))) (E.st (by decide)) E.k) ?_
  · rw [hplace]
    exact sizes_ok P hA (by omega) hc1 rfl ht23 h6 (by omega) fun H' r S le' hr hS => ⟨rfl, r, S, rfl, le', hr, hS⟩
  rintro _ H2 H7' ⟨rz, S, rfl, le2, hz2, hS⟩ W7
  clear RR6
  -- base
  let RR7 : LM → AH → Prop := fun m3 H3 => m3 = updM (updM (updM mA "cells" (.ref rc)) "sizes" (.ref rz)) "base" (.int (ns.getD 12 0)) ∧ H2 = H3
  refine sok_blk RR7 W7
    (sok_assign (hscr (i := 12) mAs (by decide) ⟨rfl, rfl, rfl⟩) (E.st (by decide)) E.k) ?_
  rintro _ _ H8' ⟨rfl, rfl⟩ W8
  clear RR7
  -- row
  have hSb := sum_bound (B := 6) (ns := S) fun x hx => ⟨hS.lo x hx, hS.hi x hx⟩
  have hSl := hS.len
  obtain ⟨nr, hnr⟩ : ∃ nr : Nat, S.sum + (gs.sum : Nat) - 1 = (nr : Int) := ⟨(S.sum + (gs.sum : Nat) - 1).toNat, by omega⟩
  have hnr9 : nr ≤ 900 := by omega
  have hkn : kind ≥ 10 → 0 < nr := fun h => by have := sum_ge (hS.pos (by omega)); omega
  let RR8 : LM → AH → Prop := fun m3 H3 => ∃ (r : Addr) (rw' : List Int), C4 (m3 = updM (updM (updM (updM mA "cells" (.ref rc)) "sizes" (.ref rz)) "base" (.int (ns.getD 12 0))) "row" (.ref r)) (Le H2 H3) (H3 r = some (.lst (rw'.map .int))) (rw'.length ≤ 1000)
  refine sok_blk RR8 W8
    (sok_assign (eok_fn P g2 P.lRow (esok_cons (eok_name (v := .int (ns.getD 12 0)) rfl (esok_cons (eok_binop (eok_binop (eok_callB gsm (esok_cons (eok_name (v := .ref rz) rfl (esok_nil (cok_sum (ns := S) hA.h (.inl ⟨rz, rfl, hz2⟩) (fun j hj => ?_) (eok_name mAo (bin_add (eok_int (bin_sub ?_))) E.k))) E.k))))) ) E.k))) (E.st (by decide)) E.k) ?_
  · have hn1 : ∀ x ∈ S, 0 ≤ x := hS.lo
    have h1 := sum_le hn1 (j + 1)
    have h2 := elt_le hn1 j hj
    unfold InLong
    refine ⟨?_, ?_⟩ <;> omega
  · rw [hnr]
    refine esok_cons (eok_name mAk (esok_cons (hscr (i := 10) mAs (by decide) (esok_cons (eok_binop (eok_binop (hscr (i := 11) mAs (by decide) (eok_int (bin_mod (by decide) (eok_int (bin_sub (esok_nil ?_)))))))))) ) E.k)
    exact row_ok P hA (by omega) hnr9 hkn fun H' r rw' le' hr hl => ⟨rfl, r, rw', rfl, le', hr, hl⟩
  rintro _ H3 H9' ⟨rr, rw', rfl, le3, hr3, hrl⟩ W9
  clear RR8
  have hz3 := le3 _ _ hz2
  -- the tree
  let RR9 : LM → AH → Prop := fun m3 H4 => ∃ p : LR, C3 (m3 = updM (updM (updM (updM (updM (updM (updM (updM mA "cells" (.ref rc)) "sizes" (.ref rz)) "base" (.int (ns.getD 12 0))) "row" (.ref rr)) "root" (.ref p.2.1)) "ints" (.ref p.2.2.1)) "facts" (.ref p.2.2.2.1)) "seq" (.ref p.2.2.2.2)) (Laid a H4 0 p) (wt p.1 < 2 ^ 19)
  refine sok_blk RR9 W9
    (sok_unpack [("root", _), ("ints", _), ("facts", _), ("seq", _)] hA.h (eok_fn P g3 P.lTree (esok_cons (eok_name (v := .ref rr) rfl (esok_cons (eok_name mAh (esok_cons (eok_name (v := .ref rz) rfl (esok_cons (eok_name mAk (esok_cons (eok_binop (hscr (i := 13) mAs (by decide) (eok_callB gln (esok_cons (eok_name mAh (esok_nil (cok_len (n := gs.length) (by simp [alen, aInts]) (by omega) (bin_mod (by omega) (esok_nil ?_)))) E.k)))))) E.k)) E.k)) E.k)) E.k))) rfl (by
      intro x hx
      simp only [List.map_cons, List.map_nil, List.mem_cons, List.not_mem_nil, or_false] at hx
      rcases hx with rfl | rfl | rfl | rfl
      · exact E.st (by decide)
      · exact E.st (by decide)
      · exact E.st (by decide)
      · exact E.stc rfl) E.k) ?_
  · exact tree_ok P hA (by omega) hr3 hz3 hrl hSl (fun s hs => ⟨hS.lo s hs, hS.hi s hs⟩) hG.one h6 hlen f2.1 f2.2 fun H' p le' hp hw => ⟨_, rfl, rfl, rfl, p, rfl, hp, hw⟩
  rintro _ H4 H10' ⟨p, rfl, hp, hw⟩ W10
  clear RR9
  exact partB (T := p.1) hgp hA hk P E hM W10 hn ⟨mAs, mAt, rfl, rfl, rfl, rfl, rfl⟩ h17 (by omega) hp hw
end
end Mine
namespace Mine
open PySem PySem.W PySem.Calls PyProof.Rows
set_option maxRecDepth 100000

/-- what the top leaves: written by a small program of ours -/
noncomputable def heapK (p : Params) : Frag := [
  (3, { cls := PySem.Value.type "dict", data := PySem.Data.dict #[{ hash := PySem.PyData.keyHash p (PySem.Str.ofString "__name__"), key := PySem.Value.str (PySem.Str.ofString "__name__") 165, val := PySem.Value.str (PySem.Str.ofString "law_sx_zcanopyofobjects_4") 524 }, { hash := PySem.PyData.keyHash p (PySem.Str.ofString "__doc__"), key := PySem.Value.str (PySem.Str.ofString "__doc__") 166, val := PySem.Value.none }, { hash := PySem.PyData.keyHash p (PySem.Str.ofString "__package__"), key := PySem.Value.str (PySem.Str.ofString "__package__") 167, val := PySem.Value.none }, { hash := PySem.PyData.keyHash p (PySem.Str.ofString "__loader__"), key := PySem.Value.str (PySem.Str.ofString "__loader__") 168, val := PySem.Value.builtin "__main__.__loader__#opaque" }, { hash := PySem.PyData.keyHash p (PySem.Str.ofString "__spec__"), key := PySem.Value.str (PySem.Str.ofString "__spec__") 169, val := PySem.Value.none }, { hash := PySem.PyData.keyHash p (PySem.Str.ofString "__annotations__"), key := PySem.Value.str (PySem.Str.ofString "__annotations__") 170, val := PySem.Value.ref 6 }, { hash := PySem.PyData.keyHash p (PySem.Str.ofString "__builtins__"), key := PySem.Value.str (PySem.Str.ofString "__builtins__") 171, val := PySem.Value.ref 4 }, { hash := PySem.PyData.keyHash p (PySem.Str.ofString "__file__"), key := PySem.Value.str (PySem.Str.ofString "__file__") 173, val := PySem.Value.str (PySem.Str.ofString "/claim/cut.py") 172 }, { hash := PySem.PyData.keyHash p (PySem.Str.ofString "__cached__"), key := PySem.Value.str (PySem.Str.ofString "__cached__") 174, val := PySem.Value.none }, { hash := PySem.PyData.keyHash p (PySem.Str.ofString "_wall"), key := PySem.Value.str (PySem.Str.ofString "_wall") 193, val := PySem.Value.ref 21 }, { hash := PySem.PyData.keyHash p (PySem.Str.ofString "Node"), key := PySem.Value.str (PySem.Str.ofString "Node") 253, val := PySem.Value.ref 59 }, { hash := PySem.PyData.keyHash p (PySem.Str.ofString "Canopy"), key := PySem.Value.str (PySem.Str.ofString "Canopy") 523, val := PySem.Value.ref 255 }, { hash := PySem.PyData.keyHash p (PySem.Str.ofString "_law_SHAPES"), key := PySem.Value.str (PySem.Str.ofString "_law_SHAPES") 537, val := PySem.Value.ref 267 }, { hash := PySem.PyData.keyHash p (PySem.Str.ofString "_law_HURTS"), key := PySem.Value.str (PySem.Str.ofString "_law_HURTS") 574, val := PySem.Value.ref 280 }, { hash := PySem.PyData.keyHash p (PySem.Str.ofString "_law_sizes"), key := PySem.Value.str (PySem.Str.ofString "_law_sizes") 587, val := PySem.Value.ref 287 }, { hash := PySem.PyData.keyHash p (PySem.Str.ofString "_law_row"), key := PySem.Value.str (PySem.Str.ofString "_law_row") 593, val := PySem.Value.ref 292 }, { hash := PySem.PyData.keyHash p (PySem.Str.ofString "_law_cut"), key := PySem.Value.str (PySem.Str.ofString "_law_cut") 605, val := PySem.Value.ref 299 }, { hash := PySem.PyData.keyHash p (PySem.Str.ofString "_law_lay"), key := PySem.Value.str (PySem.Str.ofString "_law_lay") 611, val := PySem.Value.ref 304 }, { hash := PySem.PyData.keyHash p (PySem.Str.ofString "_law_twig"), key := PySem.Value.str (PySem.Str.ofString "_law_twig") 625, val := PySem.Value.ref 311 }, { hash := PySem.PyData.keyHash p (PySem.Str.ofString "_law_tree"), key := PySem.Value.str (PySem.Str.ofString "_law_tree") 631, val := PySem.Value.ref 316 }, { hash := PySem.PyData.keyHash p (PySem.Str.ofString "law"), key := PySem.Value.str (PySem.Str.ofString "law") 637, val := PySem.Value.ref 321 }] 21 }),
  (34, { cls := PySem.Value.type "code", data := PySem.Data.fields #[PySem.Value.str (PySem.Str.ofString "__init__") 208, PySem.Value.str (PySem.Str.ofString "Node.__init__") 209, PySem.Value.str (PySem.Str.ofString "/claim/cut.py") 210, PySem.Value.int 7 0, PySem.Value.int 4 0, PySem.Value.int 0 0, PySem.Value.int 0 0, PySem.Value.int 3 0, PySem.Value.ref 29, PySem.Value.bool Bool.true, PySem.Value.int 181 0, PySem.Value.ref 30, PySem.Value.none, PySem.Value.ref 31, PySem.Value.ref 32, PySem.Value.ref 33, PySem.Value.int 215 0, PySem.Value.int 7 0, PySem.Value.str (PySem.Str.ofString "/claim/cut.py") 216] }),
  (35, { cls := PySem.Value.type "function", data := PySem.Data.func { name := PySem.Str.ofString "__init__", qualname := PySem.Str.ofString "Node.__init__", params := Mine.mNInit.args, body := .stmts Mine.mNInit.body, scope := Mine.mNInit.sc, globals := 3, closure := [], defaults := PySem.Value.none, kwdefaults := PySem.Value.none, pyModule := PySem.Value.str (PySem.Str.ofString "canopy.core") 194, code := PySem.Value.ref 34 } }),
  (41, { cls := PySem.Value.type "code", data := PySem.Data.fields #[PySem.Value.str (PySem.Str.ofString "is_leaf") 218, PySem.Value.str (PySem.Str.ofString "Node.is_leaf") 219, PySem.Value.str (PySem.Str.ofString "/claim/cut.py") 220, PySem.Value.int 12 0, PySem.Value.int 1 0, PySem.Value.int 0 0, PySem.Value.int 0 0, PySem.Value.int 3 0, PySem.Value.ref 36, PySem.Value.bool Bool.true, PySem.Value.int 181 0, PySem.Value.ref 37, PySem.Value.none, PySem.Value.ref 38, PySem.Value.ref 39, PySem.Value.ref 40, PySem.Value.int 222 0, PySem.Value.int 12 0, PySem.Value.str (PySem.Str.ofString "/claim/cut.py") 223] }),
  (42, { cls := PySem.Value.type "function", data := PySem.Data.func { name := PySem.Str.ofString "is_leaf", qualname := PySem.Str.ofString "Node.is_leaf", params := Mine.mNLeaf.args, body := .stmts Mine.mNLeaf.body, scope := Mine.mNLeaf.sc, globals := 3, closure := [], defaults := PySem.Value.none, kwdefaults := PySem.Value.none, pyModule := PySem.Value.str (PySem.Str.ofString "canopy.core") 194, code := PySem.Value.ref 41 } }),
  (58, { cls := PySem.Value.type "dict", data := PySem.Data.dict #[{ hash := PySem.PyData.keyHash p (PySem.Str.ofString "__module__"), key := PySem.Value.str (PySem.Str.ofString "__module__") 203, val := PySem.Value.str (PySem.Str.ofString "canopy.core") 194 }, { hash := PySem.PyData.keyHash p (PySem.Str.ofString "__firstlineno__"), key := PySem.Value.str (PySem.Str.ofString "__firstlineno__") 207, val := PySem.Value.int 5 206 }, { hash := PySem.PyData.keyHash p (PySem.Str.ofString "__init__"), key := PySem.Value.str (PySem.Str.ofString "__init__") 217, val := PySem.Value.ref 35 }, { hash := PySem.PyData.keyHash p (PySem.Str.ofString "is_leaf"), key := PySem.Value.str (PySem.Str.ofString "is_leaf") 224, val := PySem.Value.ref 42 }, { hash := PySem.PyData.keyHash p (PySem.Str.ofString "slot"), key := PySem.Value.str (PySem.Str.ofString "slot") 232, val := PySem.Value.ref 49 }, { hash := PySem.PyData.keyHash p (PySem.Str.ofString "lay"), key := PySem.Value.str (PySem.Str.ofString "lay") 242, val := PySem.Value.ref 56 }, { hash := PySem.PyData.keyHash p (PySem.Str.ofString "__static_attributes__"), key := PySem.Value.str (PySem.Str.ofString "__static_attributes__") 246, val := PySem.Value.ref 57 }, { hash := PySem.PyData.keyHash p (PySem.Str.ofString "__dict__"), key := PySem.Value.str (PySem.Str.ofString "__dict__") 248, val := PySem.Value.ref 60 }, { hash := PySem.PyData.keyHash p (PySem.Str.ofString "__weakref__"), key := PySem.Value.str (PySem.Str.ofString "__weakref__") 250, val := PySem.Value.ref 61 }, { hash := PySem.PyData.keyHash p (PySem.Str.ofString "__doc__"), key := PySem.Value.str (PySem.Str.ofString "__doc__") 251, val := PySem.Value.none }] 4 }),
  (59, { cls := PySem.Value.type "type", data := PySem.Data.cls { name := PySem.Str.ofString "Node", bases := [PySem.Value.type "object"], mro := [PySem.Value.ref 59, PySem.Value.type "object"], ns := 58, qualname := PySem.Str.ofString "Node" }, slots := #[Option.none, Option.none, Option.some (PySem.Value.str (PySem.Str.ofString "Node") 196), Option.some (PySem.Value.str (PySem.Str.ofString "Node") 204), Option.some (PySem.Value.builtin "object.__new__"), Option.some (PySem.Value.bool Bool.true)] }),
  (60, { cls := PySem.Value.type "getset_descriptor", data := PySem.Data.fields #[PySem.Value.str (PySem.Str.ofString "__dict__") 247, PySem.Value.ref 59, PySem.Value.builtin "function.__dict__", PySem.Value.builtin "function.__dict__#set"] }),
  (61, { cls := PySem.Value.type "getset_descriptor", data := PySem.Data.fields #[PySem.Value.str (PySem.Str.ofString "__weakref__") 249, PySem.Value.ref 59, PySem.Value.builtin "ExceptionGroup.__weakref__", PySem.Value.none] }),
  (76, { cls := PySem.Value.type "code", data := PySem.Data.fields #[PySem.Value.str (PySem.Str.ofString "__init__") 266, PySem.Value.str (PySem.Str.ofString "Canopy.__init__") 267, PySem.Value.str (PySem.Str.ofString "/claim/cut.py") 268, PySem.Value.int 22 0, PySem.Value.int 2 0, PySem.Value.int 0 0, PySem.Value.int 0 0, PySem.Value.int 3 0, PySem.Value.ref 71, PySem.Value.bool Bool.true, PySem.Value.int 181 0, PySem.Value.ref 72, PySem.Value.none, PySem.Value.ref 73, PySem.Value.ref 74, PySem.Value.ref 75, PySem.Value.int 271 0, PySem.Value.int 22 0, PySem.Value.str (PySem.Str.ofString "/claim/cut.py") 272] }),
  (77, { cls := PySem.Value.type "function", data := PySem.Data.func { name := PySem.Str.ofString "__init__", qualname := PySem.Str.ofString "Canopy.__init__", params := Mine.mCInit.args, body := .stmts Mine.mCInit.body, scope := Mine.mCInit.sc, globals := 3, closure := [], defaults := PySem.Value.none, kwdefaults := PySem.Value.none, pyModule := PySem.Value.str (PySem.Str.ofString "canopy.core") 194, code := PySem.Value.ref 76 } }),
  (83, { cls := PySem.Value.type "code", data := PySem.Data.fields #[PySem.Value.str (PySem.Str.ofString "adopt") 274, PySem.Value.str (PySem.Str.ofString "Canopy.adopt") 275, PySem.Value.str (PySem.Str.ofString "/claim/cut.py") 276, PySem.Value.int 27 0, PySem.Value.int 3 0, PySem.Value.int 0 0, PySem.Value.int 0 0, PySem.Value.int 3 0, PySem.Value.ref 78, PySem.Value.bool Bool.true, PySem.Value.int 181 0, PySem.Value.ref 79, PySem.Value.none, PySem.Value.ref 80, PySem.Value.ref 81, PySem.Value.ref 82, PySem.Value.int 280 0, PySem.Value.int 27 0, PySem.Value.str (PySem.Str.ofString "/claim/cut.py") 281] }),
  (84, { cls := PySem.Value.type "function", data := PySem.Data.func { name := PySem.Str.ofString "adopt", qualname := PySem.Str.ofString "Canopy.adopt", params := Mine.mCAdopt.args, body := .stmts Mine.mCAdopt.body, scope := Mine.mCAdopt.sc, globals := 3, closure := [], defaults := PySem.Value.none, kwdefaults := PySem.Value.none, pyModule := PySem.Value.str (PySem.Str.ofString "canopy.core") 194, code := PySem.Value.ref 83 } }),
  (97, { cls := PySem.Value.type "code", data := PySem.Data.fields #[PySem.Value.str (PySem.Str.ofString "height") 291, PySem.Value.str (PySem.Str.ofString "Canopy.height") 292, PySem.Value.str (PySem.Str.ofString "/claim/cut.py") 293, PySem.Value.int 34 0, PySem.Value.int 1 0, PySem.Value.int 0 0, PySem.Value.int 0 0, PySem.Value.int 3 0, PySem.Value.ref 92, PySem.Value.bool Bool.true, PySem.Value.int 181 0, PySem.Value.ref 93, PySem.Value.none, PySem.Value.ref 94, PySem.Value.ref 95, PySem.Value.ref 96, PySem.Value.int 297 0, PySem.Value.int 34 0, PySem.Value.str (PySem.Str.ofString "/claim/cut.py") 298] }),
  (98, { cls := PySem.Value.type "function", data := PySem.Data.func { name := PySem.Str.ofString "height", qualname := PySem.Str.ofString "Canopy.height", params := Mine.mCHeight.args, body := .stmts Mine.mCHeight.body, scope := Mine.mCHeight.sc, globals := 3, closure := [], defaults := PySem.Value.none, kwdefaults := PySem.Value.none, pyModule := PySem.Value.str (PySem.Str.ofString "canopy.core") 194, code := PySem.Value.ref 97 } }),
  (181, { cls := PySem.Value.type "code", data := PySem.Data.fields #[PySem.Value.str (PySem.Str.ofString "shape_ok") 393, PySem.Value.str (PySem.Str.ofString "Canopy.shape_ok") 394, PySem.Value.str (PySem.Str.ofString "/claim/cut.py") 395, PySem.Value.int 75 0, PySem.Value.int 3 0, PySem.Value.int 0 0, PySem.Value.int 0 0, PySem.Value.int 3 0, PySem.Value.ref 176, PySem.Value.bool Bool.true, PySem.Value.int 181 0, PySem.Value.ref 177, PySem.Value.none, PySem.Value.ref 178, PySem.Value.ref 179, PySem.Value.ref 180, PySem.Value.int 405 0, PySem.Value.int 75 0, PySem.Value.str (PySem.Str.ofString "/claim/cut.py") 406] }),
  (182, { cls := PySem.Value.type "function", data := PySem.Data.func { name := PySem.Str.ofString "shape_ok", qualname := PySem.Str.ofString "Canopy.shape_ok", params := Mine.mCShape.args, body := .stmts Mine.mCShape.body, scope := Mine.mCShape.sc, globals := 3, closure := [], defaults := PySem.Value.none, kwdefaults := PySem.Value.none, pyModule := PySem.Value.str (PySem.Str.ofString "canopy.core") 194, code := PySem.Value.ref 181 } }),
  (188, { cls := PySem.Value.type "code", data := PySem.Data.fields #[PySem.Value.str (PySem.Str.ofString "keys_ok") 408, PySem.Value.str (PySem.Str.ofString "Canopy.keys_ok") 409, PySem.Value.str (PySem.Str.ofString "/claim/cut.py") 410, PySem.Value.int 93 0, PySem.Value.int 4 0, PySem.Value.int 0 0, PySem.Value.int 0 0, PySem.Value.int 3 0, PySem.Value.ref 183, PySem.Value.bool Bool.true, PySem.Value.int 181 0, PySem.Value.ref 184, PySem.Value.none, PySem.Value.ref 185, PySem.Value.ref 186, PySem.Value.ref 187, PySem.Value.int 423 0, PySem.Value.int 93 0, PySem.Value.str (PySem.Str.ofString "/claim/cut.py") 424] }),
  (189, { cls := PySem.Value.type "function", data := PySem.Data.func { name := PySem.Str.ofString "keys_ok", qualname := PySem.Str.ofString "Canopy.keys_ok", params := Mine.mCKeys.args, body := .stmts Mine.mCKeys.body, scope := Mine.mCKeys.sc, globals := 3, closure := [], defaults := PySem.Value.none, kwdefaults := PySem.Value.none, pyModule := PySem.Value.str (PySem.Str.ofString "canopy.core") 194, code := PySem.Value.ref 188 } }),
  (195, { cls := PySem.Value.type "code", data := PySem.Data.fields #[PySem.Value.str (PySem.Str.ofString "leaf_level") 426, PySem.Value.str (PySem.Str.ofString "Canopy.leaf_level") 427, PySem.Value.str (PySem.Str.ofString "/claim/cut.py") 428, PySem.Value.int 117 0, PySem.Value.int 2 0, PySem.Value.int 0 0, PySem.Value.int 0 0, PySem.Value.int 3 0, PySem.Value.ref 190, PySem.Value.bool Bool.true, PySem.Value.int 181 0, PySem.Value.ref 191, PySem.Value.none, PySem.Value.ref 192, PySem.Value.ref 193, PySem.Value.ref 194, PySem.Value.int 436 0, PySem.Value.int 117 0, PySem.Value.str (PySem.Str.ofString "/claim/cut.py") 437] }),
  (196, { cls := PySem.Value.type "function", data := PySem.Data.func { name := PySem.Str.ofString "leaf_level", qualname := PySem.Str.ofString "Canopy.leaf_level", params := Mine.mCLevel.args, body := .stmts Mine.mCLevel.body, scope := Mine.mCLevel.sc, globals := 3, closure := [], defaults := PySem.Value.none, kwdefaults := PySem.Value.none, pyModule := PySem.Value.str (PySem.Str.ofString "canopy.core") 194, code := PySem.Value.ref 195 } }),
  (202, { cls := PySem.Value.type "code", data := PySem.Data.fields #[PySem.Value.str (PySem.Str.ofString "check") 439, PySem.Value.str (PySem.Str.ofString "Canopy.check") 440, PySem.Value.str (PySem.Str.ofString "/claim/cut.py") 441, PySem.Value.int 133 0, PySem.Value.int 1 0, PySem.Value.int 0 0, PySem.Value.int 0 0, PySem.Value.int 3 0, PySem.Value.ref 197, PySem.Value.bool Bool.true, PySem.Value.int 181 0, PySem.Value.ref 198, PySem.Value.none, PySem.Value.ref 199, PySem.Value.ref 200, PySem.Value.ref 201, PySem.Value.int 443 0, PySem.Value.int 133 0, PySem.Value.str (PySem.Str.ofString "/claim/cut.py") 444] }),
  (203, { cls := PySem.Value.type "function", data := PySem.Data.func { name := PySem.Str.ofString "check", qualname := PySem.Str.ofString "Canopy.check", params := Mine.mCCheck.args, body := .stmts Mine.mCCheck.body, scope := Mine.mCCheck.sc, globals := 3, closure := [], defaults := PySem.Value.none, kwdefaults := PySem.Value.none, pyModule := PySem.Value.str (PySem.Str.ofString "canopy.core") 194, code := PySem.Value.ref 202 } }),
  (216, { cls := PySem.Value.type "code", data := PySem.Data.fields #[PySem.Value.str (PySem.Str.ofString "count_below") 456, PySem.Value.str (PySem.Str.ofString "Canopy.count_below") 457, PySem.Value.str (PySem.Str.ofString "/claim/cut.py") 458, PySem.Value.int 145 0, PySem.Value.int 2 0, PySem.Value.int 0 0, PySem.Value.int 0 0, PySem.Value.int 3 0, PySem.Value.ref 211, PySem.Value.bool Bool.true, PySem.Value.int 181 0, PySem.Value.ref 212, PySem.Value.none, PySem.Value.ref 213, PySem.Value.ref 214, PySem.Value.ref 215, PySem.Value.int 465 0, PySem.Value.int 145 0, PySem.Value.str (PySem.Str.ofString "/claim/cut.py") 466] }),
  (217, { cls := PySem.Value.type "function", data := PySem.Data.func { name := PySem.Str.ofString "count_below", qualname := PySem.Str.ofString "Canopy.count_below", params := Mine.mCCount.args, body := .stmts Mine.mCCount.body, scope := Mine.mCCount.sc, globals := 3, closure := [], defaults := PySem.Value.none, kwdefaults := PySem.Value.none, pyModule := PySem.Value.str (PySem.Str.ofString "canopy.core") 194, code := PySem.Value.ref 216 } }),
  (244, { cls := PySem.Value.type "code", data := PySem.Data.fields #[PySem.Value.str (PySem.Str.ofString "flat_below") 492, PySem.Value.str (PySem.Str.ofString "Canopy.flat_below") 493, PySem.Value.str (PySem.Str.ofString "/claim/cut.py") 494, PySem.Value.int 165 0, PySem.Value.int 2 0, PySem.Value.int 0 0, PySem.Value.int 0 0, PySem.Value.int 3 0, PySem.Value.ref 239, PySem.Value.bool Bool.true, PySem.Value.int 181 0, PySem.Value.ref 240, PySem.Value.none, PySem.Value.ref 241, PySem.Value.ref 242, PySem.Value.ref 243, PySem.Value.int 503 0, PySem.Value.int 165 0, PySem.Value.str (PySem.Str.ofString "/claim/cut.py") 504] }),
  (245, { cls := PySem.Value.type "function", data := PySem.Data.func { name := PySem.Str.ofString "flat_below", qualname := PySem.Str.ofString "Canopy.flat_below", params := Mine.mCFlatB.args, body := .stmts Mine.mCFlatB.body, scope := Mine.mCFlatB.sc, globals := 3, closure := [], defaults := PySem.Value.none, kwdefaults := PySem.Value.none, pyModule := PySem.Value.str (PySem.Str.ofString "canopy.core") 194, code := PySem.Value.ref 244 } }),
  (251, { cls := PySem.Value.type "code", data := PySem.Data.fields #[PySem.Value.str (PySem.Str.ofString "flat") 506, PySem.Value.str (PySem.Str.ofString "Canopy.flat") 507, PySem.Value.str (PySem.Str.ofString "/claim/cut.py") 508, PySem.Value.int 181 0, PySem.Value.int 1 0, PySem.Value.int 0 0, PySem.Value.int 0 0, PySem.Value.int 3 0, PySem.Value.ref 246, PySem.Value.bool Bool.true, PySem.Value.int 181 0, PySem.Value.ref 247, PySem.Value.none, PySem.Value.ref 248, PySem.Value.ref 249, PySem.Value.ref 250, PySem.Value.int 510 0, PySem.Value.int 181 0, PySem.Value.str (PySem.Str.ofString "/claim/cut.py") 511] }),
  (252, { cls := PySem.Value.type "function", data := PySem.Data.func { name := PySem.Str.ofString "flat", qualname := PySem.Str.ofString "Canopy.flat", params := Mine.mCFlat.args, body := .stmts Mine.mCFlat.body, scope := Mine.mCFlat.sc, globals := 3, closure := [], defaults := PySem.Value.none, kwdefaults := PySem.Value.none, pyModule := PySem.Value.str (PySem.Str.ofString "canopy.core") 194, code := PySem.Value.ref 251 } }),
  (254, { cls := PySem.Value.type "dict", data := PySem.Data.dict #[{ hash := PySem.PyData.keyHash p (PySem.Str.ofString "__module__"), key := PySem.Value.str (PySem.Str.ofString "__module__") 261, val := PySem.Value.str (PySem.Str.ofString "canopy.core") 194 }, { hash := PySem.PyData.keyHash p (PySem.Str.ofString "__firstlineno__"), key := PySem.Value.str (PySem.Str.ofString "__firstlineno__") 265, val := PySem.Value.int 20 264 }, { hash := PySem.PyData.keyHash p (PySem.Str.ofString "__init__"), key := PySem.Value.str (PySem.Str.ofString "__init__") 273, val := PySem.Value.ref 77 }, { hash := PySem.PyData.keyHash p (PySem.Str.ofString "adopt"), key := PySem.Value.str (PySem.Str.ofString "adopt") 282, val := PySem.Value.ref 84 }, { hash := PySem.PyData.keyHash p (PySem.Str.ofString "lookup"), key := PySem.Value.str (PySem.Str.ofString "lookup") 290, val := PySem.Value.ref 91 }, { hash := PySem.PyData.keyHash p (PySem.Str.ofString "height"), key := PySem.Value.str (PySem.Str.ofString "height") 299, val := PySem.Value.ref 98 }, { hash := PySem.PyData.keyHash p (PySem.Str.ofString "split_child"), key := PySem.Value.str (PySem.Str.ofString "split_child") 308, val := PySem.Value.ref 105 }, { hash := PySem.PyData.keyHash p (PySem.Str.ofString "put"), key := PySem.Value.str (PySem.Str.ofString "put") 317, val := PySem.Value.ref 112 }, { hash := PySem.PyData.keyHash p (PySem.Str.ofString "merge_children"), key := PySem.Value.str (PySem.Str.ofString "merge_children") 326, val := PySem.Value.ref 119 }, { hash := PySem.PyData.keyHash p (PySem.Str.ofString "borrow_from_left"), key := PySem.Value.str (PySem.Str.ofString "borrow_from_left") 335, val := PySem.Value.ref 126 }, { hash := PySem.PyData.keyHash p (PySem.Str.ofString "borrow_from_right"), key := PySem.Value.str (PySem.Str.ofString "borrow_from_right") 344, val := PySem.Value.ref 133 }, { hash := PySem.PyData.keyHash p (PySem.Str.ofString "fill_child"), key := PySem.Value.str (PySem.Str.ofString "fill_child") 353, val := PySem.Value.ref 140 }, { hash := PySem.PyData.keyHash p (PySem.Str.ofString "least_below"), key := PySem.Value.str (PySem.Str.ofString "least_below") 361, val := PySem.Value.ref 147 }, { hash := PySem.PyData.keyHash p (PySem.Str.ofString "greatest_below"), key := PySem.Value.str (PySem.Str.ofString "greatest_below") 369, val := PySem.Value.ref 154 }, { hash := PySem.PyData.keyHash p (PySem.Str.ofString "delete"), key := PySem.Value.str (PySem.Str.ofString "delete") 377, val := PySem.Value.ref 161 }, { hash := PySem.PyData.keyHash p (PySem.Str.ofString "pairs_below"), key := PySem.Value.str (PySem.Str.ofString "pairs_below") 385, val := PySem.Value.ref 168 }, { hash := PySem.PyData.keyHash p (PySem.Str.ofString "pairs"), key := PySem.Value.str (PySem.Str.ofString "pairs") 392, val := PySem.Value.ref 175 }, { hash := PySem.PyData.keyHash p (PySem.Str.ofString "shape_ok"), key := PySem.Value.str (PySem.Str.ofString "shape_ok") 407, val := PySem.Value.ref 182 }, { hash := PySem.PyData.keyHash p (PySem.Str.ofString "keys_ok"), key := PySem.Value.str (PySem.Str.ofString "keys_ok") 425, val := PySem.Value.ref 189 }, { hash := PySem.PyData.keyHash p (PySem.Str.ofString "leaf_level"), key := PySem.Value.str (PySem.Str.ofString "leaf_level") 438, val := PySem.Value.ref 196 }, { hash := PySem.PyData.keyHash p (PySem.Str.ofString "check"), key := PySem.Value.str (PySem.Str.ofString "check") 445, val := PySem.Value.ref 203 }, { hash := PySem.PyData.keyHash p (PySem.Str.ofString "range_below"), key := PySem.Value.str (PySem.Str.ofString "range_below") 455, val := PySem.Value.ref 210 }, { hash := PySem.PyData.keyHash p (PySem.Str.ofString "count_below"), key := PySem.Value.str (PySem.Str.ofString "count_below") 467, val := PySem.Value.ref 217 }, { hash := PySem.PyData.keyHash p (PySem.Str.ofString "rank_of"), key := PySem.Value.str (PySem.Str.ofString "rank_of") 475, val := PySem.Value.ref 224 }, { hash := PySem.PyData.keyHash p (PySem.Str.ofString "select_key"), key := PySem.Value.str (PySem.Str.ofString "select_key") 483, val := PySem.Value.ref 231 }, { hash := PySem.PyData.keyHash p (PySem.Str.ofString "next_key"), key := PySem.Value.str (PySem.Str.ofString "next_key") 491, val := PySem.Value.ref 238 }, { hash := PySem.PyData.keyHash p (PySem.Str.ofString "flat_below"), key := PySem.Value.str (PySem.Str.ofString "flat_below") 505, val := PySem.Value.ref 245 }, { hash := PySem.PyData.keyHash p (PySem.Str.ofString "flat"), key := PySem.Value.str (PySem.Str.ofString "flat") 512, val := PySem.Value.ref 252 }, { hash := PySem.PyData.keyHash p (PySem.Str.ofString "__static_attributes__"), key := PySem.Value.str (PySem.Str.ofString "__static_attributes__") 516, val := PySem.Value.ref 253 }, { hash := PySem.PyData.keyHash p (PySem.Str.ofString "__dict__"), key := PySem.Value.str (PySem.Str.ofString "__dict__") 518, val := PySem.Value.ref 256 }, { hash := PySem.PyData.keyHash p (PySem.Str.ofString "__weakref__"), key := PySem.Value.str (PySem.Str.ofString "__weakref__") 520, val := PySem.Value.ref 257 }, { hash := PySem.PyData.keyHash p (PySem.Str.ofString "__doc__"), key := PySem.Value.str (PySem.Str.ofString "__doc__") 521, val := PySem.Value.none }] 4 }),
  (255, { cls := PySem.Value.type "type", data := PySem.Data.cls { name := PySem.Str.ofString "Canopy", bases := [PySem.Value.type "object"], mro := [PySem.Value.ref 255, PySem.Value.type "object"], ns := 254, qualname := PySem.Str.ofString "Canopy" }, slots := #[Option.none, Option.none, Option.some (PySem.Value.str (PySem.Str.ofString "Canopy") 254), Option.some (PySem.Value.str (PySem.Str.ofString "Canopy") 262), Option.some (PySem.Value.builtin "object.__new__"), Option.some (PySem.Value.bool Bool.true)] }),
  (256, { cls := PySem.Value.type "getset_descriptor", data := PySem.Data.fields #[PySem.Value.str (PySem.Str.ofString "__dict__") 517, PySem.Value.ref 255, PySem.Value.builtin "function.__dict__", PySem.Value.builtin "function.__dict__#set"] }),
  (257, { cls := PySem.Value.type "getset_descriptor", data := PySem.Data.fields #[PySem.Value.str (PySem.Str.ofString "__weakref__") 519, PySem.Value.ref 255, PySem.Value.builtin "ExceptionGroup.__weakref__", PySem.Value.none] }),
  (260, { cls := PySem.Value.type "tuple", data := PySem.Data.seq #[PySem.Value.int 1 526] }),
  (261, { cls := PySem.Value.type "tuple", data := PySem.Data.seq #[PySem.Value.int 2 527] }),
  (262, { cls := PySem.Value.type "tuple", data := PySem.Data.seq #[PySem.Value.int 3 528] }),
  (263, { cls := PySem.Value.type "tuple", data := PySem.Data.seq #[PySem.Value.int 2 529, PySem.Value.int 2 530] }),
  (264, { cls := PySem.Value.type "tuple", data := PySem.Data.seq #[PySem.Value.int 3 531, PySem.Value.int 1 532] }),
  (265, { cls := PySem.Value.type "tuple", data := PySem.Data.seq #[PySem.Value.int 1 533, PySem.Value.int 3 534] }),
  (266, { cls := PySem.Value.type "tuple", data := PySem.Data.seq #[PySem.Value.int 3 535, PySem.Value.int 3 536] }),
  (267, { cls := PySem.Value.type "tuple", data := PySem.Data.seq #[PySem.Value.ref 260, PySem.Value.ref 261, PySem.Value.ref 262, PySem.Value.ref 263, PySem.Value.ref 264, PySem.Value.ref 265, PySem.Value.ref 266] }),
  (268, { cls := PySem.Value.type "tuple", data := PySem.Data.seq #[PySem.Value.int 0 538, PySem.Value.int 0 539, PySem.Value.int 0 540] }),
  (269, { cls := PySem.Value.type "tuple", data := PySem.Data.seq #[PySem.Value.int 0 541, PySem.Value.int 0 542, PySem.Value.int 0 543] }),
  (270, { cls := PySem.Value.type "tuple", data := PySem.Data.seq #[PySem.Value.int 0 544, PySem.Value.int 0 545, PySem.Value.int 0 546] }),
  (271, { cls := PySem.Value.type "tuple", data := PySem.Data.seq #[PySem.Value.int 0 547, PySem.Value.int 0 548, PySem.Value.int 0 549] }),
  (272, { cls := PySem.Value.type "tuple", data := PySem.Data.seq #[PySem.Value.int 1 550, PySem.Value.int 0 551, PySem.Value.int 0 552] }),
  (273, { cls := PySem.Value.type "tuple", data := PySem.Data.seq #[PySem.Value.int 2 553, PySem.Value.int 0 554, PySem.Value.int 0 555] }),
  (274, { cls := PySem.Value.type "tuple", data := PySem.Data.seq #[PySem.Value.int 0 556, PySem.Value.int 1 557, PySem.Value.int 0 558] }),
  (275, { cls := PySem.Value.type "tuple", data := PySem.Data.seq #[PySem.Value.int 0 559, PySem.Value.int 2 560, PySem.Value.int 0 561] }),
  (276, { cls := PySem.Value.type "tuple", data := PySem.Data.seq #[PySem.Value.int 0 562, PySem.Value.int 0 563, PySem.Value.int 1 564] }),
  (277, { cls := PySem.Value.type "tuple", data := PySem.Data.seq #[PySem.Value.int 0 565, PySem.Value.int 0 566, PySem.Value.int 2 567] }),
  (278, { cls := PySem.Value.type "tuple", data := PySem.Data.seq #[PySem.Value.int 0 568, PySem.Value.int 0 569, PySem.Value.int 0 570] }),
  (279, { cls := PySem.Value.type "tuple", data := PySem.Data.seq #[PySem.Value.int 0 571, PySem.Value.int 0 572, PySem.Value.int 0 573] }),
  (280, { cls := PySem.Value.type "tuple", data := PySem.Data.seq #[PySem.Value.ref 268, PySem.Value.ref 269, PySem.Value.ref 270, PySem.Value.ref 271, PySem.Value.ref 272, PySem.Value.ref 273, PySem.Value.ref 274, PySem.Value.ref 275, PySem.Value.ref 276, PySem.Value.ref 277, PySem.Value.ref 278, PySem.Value.ref 279] }),
  (286, { cls := PySem.Value.type "code", data := PySem.Data.fields #[PySem.Value.str (PySem.Str.ofString "_law_sizes") 575, PySem.Value.str (PySem.Str.ofString "_law_sizes") 576, PySem.Value.str (PySem.Str.ofString "/claim/cut.py") 577, PySem.Value.int 186 0, PySem.Value.int 5 0, PySem.Value.int 0 0, PySem.Value.int 0 0, PySem.Value.int 3 0, PySem.Value.ref 281, PySem.Value.bool Bool.true, PySem.Value.int 181 0, PySem.Value.ref 282, PySem.Value.none, PySem.Value.ref 283, PySem.Value.ref 284, PySem.Value.ref 285, PySem.Value.int 585 0, PySem.Value.int 186 0, PySem.Value.str (PySem.Str.ofString "/claim/cut.py") 586] }),
  (287, { cls := PySem.Value.type "function", data := PySem.Data.func { name := PySem.Str.ofString "_law_sizes", qualname := PySem.Str.ofString "_law_sizes", params := Mine.mLSizes.args, body := .stmts Mine.mLSizes.body, scope := Mine.mLSizes.sc, globals := 3, closure := [], defaults := PySem.Value.none, kwdefaults := PySem.Value.none, pyModule := PySem.Value.str (PySem.Str.ofString "law_sx_zcanopyofobjects_4") 524, code := PySem.Value.ref 286 } }),
  (291, { cls := PySem.Value.type "code", data := PySem.Data.fields #[PySem.Value.str (PySem.Str.ofString "_law_row") 588, PySem.Value.str (PySem.Str.ofString "_law_row") 589, PySem.Value.str (PySem.Str.ofString "/claim/cut.py") 590, PySem.Value.int 196 0, PySem.Value.int 5 0, PySem.Value.int 0 0, PySem.Value.int 0 0, PySem.Value.int 3 0, PySem.Value.ref 288, PySem.Value.bool Bool.true, PySem.Value.int 181 0, PySem.Value.ref 289, PySem.Value.none, PySem.Value.none, PySem.Value.none, PySem.Value.ref 290, PySem.Value.int 591 0, PySem.Value.int 196 0, PySem.Value.str (PySem.Str.ofString "/claim/cut.py") 592] }),
  (292, { cls := PySem.Value.type "function", data := PySem.Data.func { name := PySem.Str.ofString "_law_row", qualname := PySem.Str.ofString "_law_row", params := Mine.mLRow.args, body := .stmts Mine.mLRow.body, scope := Mine.mLRow.sc, globals := 3, closure := [], defaults := PySem.Value.none, kwdefaults := PySem.Value.none, pyModule := PySem.Value.str (PySem.Str.ofString "law_sx_zcanopyofobjects_4") 524, code := PySem.Value.ref 291 } }),
  (298, { cls := PySem.Value.type "code", data := PySem.Data.fields #[PySem.Value.str (PySem.Str.ofString "_law_cut") 594, PySem.Value.str (PySem.Str.ofString "_law_cut") 595, PySem.Value.str (PySem.Str.ofString "/claim/cut.py") 596, PySem.Value.int 202 0, PySem.Value.int 2 0, PySem.Value.int 0 0, PySem.Value.int 0 0, PySem.Value.int 3 0, PySem.Value.ref 293, PySem.Value.bool Bool.true, PySem.Value.int 181 0, PySem.Value.ref 294, PySem.Value.none, PySem.Value.ref 295, PySem.Value.ref 296, PySem.Value.ref 297, PySem.Value.int 603 0, PySem.Value.int 202 0, PySem.Value.str (PySem.Str.ofString "/claim/cut.py") 604] }),
  (299, { cls := PySem.Value.type "function", data := PySem.Data.func { name := PySem.Str.ofString "_law_cut", qualname := PySem.Str.ofString "_law_cut", params := Mine.mLCut.args, body := .stmts Mine.mLCut.body, scope := Mine.mLCut.sc, globals := 3, closure := [], defaults := PySem.Value.none, kwdefaults := PySem.Value.none, pyModule := PySem.Value.str (PySem.Str.ofString "law_sx_zcanopyofobjects_4") 524, code := PySem.Value.ref 298 } }),
  (303, { cls := PySem.Value.type "code", data := PySem.Data.fields #[PySem.Value.str (PySem.Str.ofString "_law_lay") 606, PySem.Value.str (PySem.Str.ofString "_law_lay") 607, PySem.Value.str (PySem.Str.ofString "/claim/cut.py") 608, PySem.Value.int 211 0, PySem.Value.int 4 0, PySem.Value.int 0 0, PySem.Value.int 0 0, PySem.Value.int 3 0, PySem.Value.ref 300, PySem.Value.bool Bool.true, PySem.Value.int 181 0, PySem.Value.ref 301, PySem.Value.none, PySem.Value.none, PySem.Value.none, PySem.Value.ref 302, PySem.Value.int 609 0, PySem.Value.int 211 0, PySem.Value.str (PySem.Str.ofString "/claim/cut.py") 610] }),
  (304, { cls := PySem.Value.type "function", data := PySem.Data.func { name := PySem.Str.ofString "_law_lay", qualname := PySem.Str.ofString "_law_lay", params := Mine.mLLay.args, body := .stmts Mine.mLLay.body, scope := Mine.mLLay.sc, globals := 3, closure := [], defaults := PySem.Value.none, kwdefaults := PySem.Value.none, pyModule := PySem.Value.str (PySem.Str.ofString "law_sx_zcanopyofobjects_4") 524, code := PySem.Value.ref 303 } }),
  (310, { cls := PySem.Value.type "code", data := PySem.Data.fields #[PySem.Value.str (PySem.Str.ofString "_law_twig") 612, PySem.Value.str (PySem.Str.ofString "_law_twig") 613, PySem.Value.str (PySem.Str.ofString "/claim/cut.py") 614, PySem.Value.int 226 0, PySem.Value.int 4 0, PySem.Value.int 0 0, PySem.Value.int 0 0, PySem.Value.int 3 0, PySem.Value.ref 305, PySem.Value.bool Bool.true, PySem.Value.int 181 0, PySem.Value.ref 306, PySem.Value.none, PySem.Value.ref 307, PySem.Value.ref 308, PySem.Value.ref 309, PySem.Value.int 623 0, PySem.Value.int 226 0, PySem.Value.str (PySem.Str.ofString "/claim/cut.py") 624] }),
  (311, { cls := PySem.Value.type "function", data := PySem.Data.func { name := PySem.Str.ofString "_law_twig", qualname := PySem.Str.ofString "_law_twig", params := Mine.mLTwig.args, body := .stmts Mine.mLTwig.body, scope := Mine.mLTwig.sc, globals := 3, closure := [], defaults := PySem.Value.none, kwdefaults := PySem.Value.none, pyModule := PySem.Value.str (PySem.Str.ofString "law_sx_zcanopyofobjects_4") 524, code := PySem.Value.ref 310 } }),
  (315, { cls := PySem.Value.type "code", data := PySem.Data.fields #[PySem.Value.str (PySem.Str.ofString "_law_tree") 626, PySem.Value.str (PySem.Str.ofString "_law_tree") 627, PySem.Value.str (PySem.Str.ofString "/claim/cut.py") 628, PySem.Value.int 238 0, PySem.Value.int 5 0, PySem.Value.int 0 0, PySem.Value.int 0 0, PySem.Value.int 3 0, PySem.Value.ref 312, PySem.Value.bool Bool.true, PySem.Value.int 181 0, PySem.Value.ref 313, PySem.Value.none, PySem.Value.none, PySem.Value.none, PySem.Value.ref 314, PySem.Value.int 629 0, PySem.Value.int 238 0, PySem.Value.str (PySem.Str.ofString "/claim/cut.py") 630] }),
  (316, { cls := PySem.Value.type "function", data := PySem.Data.func { name := PySem.Str.ofString "_law_tree", qualname := PySem.Str.ofString "_law_tree", params := Mine.mLTree.args, body := .stmts Mine.mLTree.body, scope := Mine.mLTree.sc, globals := 3, closure := [], defaults := PySem.Value.none, kwdefaults := PySem.Value.none, pyModule := PySem.Value.str (PySem.Str.ofString "law_sx_zcanopyofobjects_4") 524, code := PySem.Value.ref 315 } })]
noncomputable def heapA : List Addr := [3, 34, 35, 41, 42, 58, 59, 60, 61, 76, 77, 83, 84, 97, 98, 181, 182, 188, 189, 195, 196, 202, 203, 216, 217, 244, 245, 251, 252, 254, 255, 256, 257, 260, 261, 262, 263, 264, 265, 266, 267, 268, 269, 270, 271, 272, 273, 274, 275, 276, 277, 278, 279, 280, 286, 287, 291, 292, 298, 299, 303, 304, 310, 311, 315, 316]

noncomputable def ads : Ads := { node := 59, canopy := 255, nInit := 35, nLeaf := 42, cInit := 77, cAdopt := 84, cHeight := 98, cShape := 182, cKeys := 189, cLevel := 196, cCheck := 203, cCount := 217, cFlatB := 245, cFlat := 252, lSizes := 287, lRow := 292, lCut := 299, lLay := 304, lTwig := 311, lTree := 316, shapes := 267, hurts := 280 }

noncomputable def lookupTup (K : Frag) (a : Addr) : Option (List Value) := match K.lookup a with
  | some o => (match o.cls, o.data with
    | .type t, .seq xs _ => if t = "tuple" then some xs.toList else none
    | _, _ => none)
  | none => none
noncomputable def intsMatch : List Int → List Value → Bool
  | [], [] => true
  | n :: ns, .int i _ :: vs => n == i && intsMatch ns vs
  | _, _ => false
noncomputable def tupsMatch (K : Frag) : List (List Int) → List Value → Bool
  | [], [] => true
  | ns :: nss, .ref a :: vs => (match lookupTup K a with | some xs => intsMatch ns xs | none => false) && tupsMatch K nss vs
  | _, _ => false
theorem lookupTup_is {K : Frag} {a : Addr} {vs : List Value} {h : Heap} (X : K.In h) (e : lookupTup K a = some vs) : IsTup h a vs.toArray := by
  unfold lookupTup at e
  split at e
  · rename_i o ho
    split at e
    · rename_i t xs n hc hd
      split at e
      · rename_i ht
        simp only [Option.some.injEq] at e
        subst e
        exact ⟨o, X _ _ ho, by rw [hc, ht], n, by rw [hd]⟩
      · cases e
    · cases e
  · cases e
theorem intsMatch_is {b h : Heap} : ∀ {ns : List Int} {vs : List Value}, intsMatch ns vs = true → VRs b h (ns.map .int) vs
  | [], [], _ => rfl
  | n :: ns, .int i t :: vs, e => by
    simp only [intsMatch, Bool.and_eq_true, beq_iff_eq] at e
    simp only [List.map_cons, VRs]
    exact ⟨_, _, rfl, ⟨t, by rw [e.1]⟩, intsMatch_is e.2⟩
theorem tupsMatch_is {K : Frag} {b h : Heap} (X : K.In h) : ∀ {nss : List (List Int)} {vs : List Value}, tupsMatch K nss vs = true → VRs b h (nss.map aInts) vs
  | [], [], _ => rfl
  | ns :: nss, .ref a :: vs, e => by
    simp only [tupsMatch, Bool.and_eq_true] at e
    obtain ⟨e1, e2⟩ := e
    simp only [List.map_cons, VRs]
    refine ⟨_, _, rfl, ?_, tupsMatch_is X e2⟩
    split at e1
    · rename_i xs hx
      simp only [aInts, VR]
      exact ⟨a, xs, rfl, lookupTup_is X hx, intsMatch_is e1⟩
    · cases e1

theorem fnAt_of {K : Frag} {fa : Addr} {F : FD} {o : Obj} {name qual : Str} {doc pm an cdv ct} (h : K.lookup fa = some o) (hd : o.data = .func (fnOf name qual F.args F.body F.sc .none .none doc pm an cdv ct)) (hc : codeIn K cdv qual = true) : FnAt K fa F := by
  obtain ⟨oc, od, odt, osl⟩ := o
  simp only at hd
  subst hd
  exact ⟨name, qual, doc, pm, an, cdv, ct, oc, od, osl, h, hc⟩

section
variable (p : Params)
theorem k_node : ClsOk (heapK p) 59 nodeFields := ⟨rfl, rfl, rfl, by
  intro n hn
  simp only [nodeFields, List.mem_cons, List.not_mem_nil, or_false] at hn
  rcases hn with rfl | rfl | rfl <;> exact ⟨_, rfl, rfl⟩, rfl, rfl, by
  intro n hn
  simp only [nodeFields, List.mem_cons, List.not_mem_nil, or_false] at hn
  rcases hn with rfl | rfl | rfl <;> rfl⟩
theorem k_canopy : ClsOk (heapK p) 255 canFields := ⟨rfl, rfl, rfl, by
  intro n hn
  simp only [canFields, List.mem_cons, List.not_mem_nil, or_false] at hn
  rcases hn with rfl | rfl | rfl <;> exact ⟨_, rfl, rfl⟩, rfl, rfl, by
  intro n hn
  simp only [canFields, List.mem_cons, List.not_mem_nil, or_false] at hn
  rcases hn with rfl | rfl | rfl <;> rfl⟩
theorem k_nInit : MethAt (heapK p) 59 "__init__" 35 mNInit := ⟨rfl, rfl, fnAt_of rfl rfl rfl⟩
theorem k_nLeaf : MethAt (heapK p) 59 "is_leaf" 42 mNLeaf := ⟨rfl, rfl, fnAt_of rfl rfl rfl⟩
theorem k_cInit : MethAt (heapK p) 255 "__init__" 77 mCInit := ⟨rfl, rfl, fnAt_of rfl rfl rfl⟩
theorem k_cAdopt : MethAt (heapK p) 255 "adopt" 84 mCAdopt := ⟨rfl, rfl, fnAt_of rfl rfl rfl⟩
theorem k_cHeight : MethAt (heapK p) 255 "height" 98 mCHeight := ⟨rfl, rfl, fnAt_of rfl rfl rfl⟩
theorem k_cShape : MethAt (heapK p) 255 "shape_ok" 182 mCShape := ⟨rfl, rfl, fnAt_of rfl rfl rfl⟩
theorem k_cKeys : MethAt (heapK p) 255 "keys_ok" 189 mCKeys := ⟨rfl, rfl, fnAt_of rfl rfl rfl⟩
theorem k_cLevel : MethAt (heapK p) 255 "leaf_level" 196 mCLevel := ⟨rfl, rfl, fnAt_of rfl rfl rfl⟩
theorem k_cCheck : MethAt (heapK p) 255 "check" 203 mCCheck := ⟨rfl, rfl, fnAt_of rfl rfl rfl⟩
theorem k_cCount : MethAt (heapK p) 255 "count_below" 217 mCCount := ⟨rfl, rfl, fnAt_of rfl rfl rfl⟩
theorem k_cFlatB : MethAt (heapK p) 255 "flat_below" 245 mCFlatB := ⟨rfl, rfl, fnAt_of rfl rfl rfl⟩
theorem k_cFlat : MethAt (heapK p) 255 "flat" 252 mCFlat := ⟨rfl, rfl, fnAt_of rfl rfl rfl⟩
theorem k_lSizes : FnAt (heapK p) 287 mLSizes := fnAt_of rfl rfl rfl
theorem k_lRow : FnAt (heapK p) 292 mLRow := fnAt_of rfl rfl rfl
theorem k_lCut : FnAt (heapK p) 299 mLCut := fnAt_of rfl rfl rfl
theorem k_lLay : FnAt (heapK p) 304 mLLay := fnAt_of rfl rfl rfl
theorem k_lTwig : FnAt (heapK p) 311 mLTwig := fnAt_of rfl rfl rfl
theorem k_lTree : FnAt (heapK p) 316 mLTree := fnAt_of rfl rfl rfl
theorem k_shapes {b h : Heap} (X : (heapK p).In h) : VR b h (.tup (SHAPES.map aInts)) (.ref 267) := by
  simp only [VR]
  exact ⟨267, _, rfl, lookupTup_is X rfl, tupsMatch_is X rfl⟩
theorem k_hurts {b h : Heap} (X : (heapK p).In h) : VR b h (.tup (HURTS.map aInts)) (.ref 280) := by
  simp only [VR]
  exact ⟨280, _, rfl, lookupTup_is X rfl, tupsMatch_is X rfl⟩

noncomputable def gEs : Array DictEntry := match (heapK p).lookup 3 with
  | some o => (match o.data with | .dict es _ => es | _ => #[])
  | none => #[]
theorem k_globals {h : Heap} {mg : Str → Option Value} (X : (heapK p).In h) (g : h.Ns mainGlobals mg) : ∀ x, mg x = nsFind (gEs p) x := by
  obtain ⟨o, es, ep, ho, hd, _, hn⟩ := g
  intro x
  have h3 := X 3 _ rfl
  rw [show h.get? mainGlobals = h.get? 3 from rfl, h3] at ho
  cases ho
  cases hd
  exact (hn x).symm

noncomputable def noTab (K : Frag) : Bool := K.all fun q => match q.2.cls, q.2.data with
  | .none, .fields _ => false
  | _, _ => true
theorem k_noTab : noTab (heapK p) = true := rfl

theorem prog_of {c : Cx} {mg mb : Str → Option Value} (X : (heapK p).In c.b) (hl : c.b.NoLimit) (hg : c.b.Ns mainGlobals mg) (hb : c.b.Ns builtinsNs mb) (hbb : ∀ x : Str, x ≠ "__name__" → mb x = bootBuiltins x) : Prog c (heapK p) ads where
  x := X
  nolimit := hl
  g := ⟨mg, mb, hg, hb, by
    intro q hq
    rw [k_globals p X hg]
    simp only [gtab, ads, List.mem_cons, List.not_mem_nil, or_false] at hq
    rcases hq with rfl | rfl | rfl | rfl | rfl | rfl | rfl | rfl | rfl | rfl <;> rfl, by
    intro q hq
    rw [k_globals p X hg]
    simp only [btab, List.mem_cons, List.not_mem_nil, or_false] at hq
    rcases hq with rfl | rfl | rfl | rfl | rfl | rfl | rfl | rfl | rfl | rfl | rfl <;> exact ⟨rfl, (hbb _ (by decide)).trans rfl⟩⟩
  node := k_node p
  canopy := k_canopy p
  nodeMakes := ⟨rfl, rfl⟩
  canMakes := ⟨rfl, rfl⟩
  nInit := k_nInit p
  nLeaf := k_nLeaf p
  cInit := k_cInit p
  cAdopt := k_cAdopt p
  cHeight := k_cHeight p
  cShape := k_cShape p
  cKeys := k_cKeys p
  cLevel := k_cLevel p
  cCheck := k_cCheck p
  cCount := k_cCount p
  cFlatB := k_cFlatB p
  cFlat := k_cFlat p
  lSizes := k_lSizes p
  lRow := k_lRow p
  lCut := k_lCut p
  lLay := k_lLay p
  lTwig := k_lTwig p
  lTree := k_lTree p
  shapes := k_shapes p X
  hurts := k_hurts p X
end
end Mine
namespace Mine
open PySem PySem.W PySem.Calls PyProof.Rows
set_option maxRecDepth 100000

theorem lookup_mem' {K : Frag} {a : Addr} {o : Obj} (h : K.lookup a = some o) : (a, o) ∈ K := by
  induction K with
  | nil => simp at h
  | cons q r ih =>
    obtain ⟨b, ob⟩ := q
    rw [List.lookup_cons] at h
    by_cases e : (a == b) = true
    · rw [e] at h
      simp only [Option.some.injEq] at h
      subst h
      have : a = b := by simpa using e
      subst this
      simp
    · have e' : (a == b) = false := by simpa using e
      rw [e'] at h
      exact List.mem_cons_of_mem _ (ih h)
theorem ints_tok' : ∀ {vs : List Value} {ns : List Int}, IntsAre vs ns → ∃ ts : List Tok, ts.length = ns.length ∧ vs = List.zipWith Value.int ns ts
  | _, _, .nil => ⟨[], rfl, rfl⟩
  | _, _, .cons n t h => by
    obtain ⟨ts, h1, rfl⟩ := ints_tok' h
    exact ⟨t :: ts, by simp [h1], rfl⟩

theorem lawl : lawL.all (fun x => lawF.sc.names.lookup x == some .local) = true := by decide +kernel
theorem lawg : lawG.all (fun x => lawF.sc.names.lookup x == some .globalImplicit) = true := by decide +kernel

theorem final {prog : Program} {w : World} {s₁ : Shared} {mg mb : Str → Option Value} {bm : Addr} {ob : Obj} {fa cc pt r : Addr} {h₁ : Heap} {tk : Nat} {ns : List Int} {vs : List Value} {mr : Str → Option Value} {Q : Flow → Shared → Prop} {E : Value → Shared → Prop}
    (KX : (heapK w.params).In s₁.heap) (tg : s₁.heap.Ns mainGlobals mg) (tb : s₁.heap.Ns builtinsNs mb) (tl : s₁.heap.NoLimit) (tbb : ∀ x : Str, x ≠ "__name__" → mb x = bootBuiltins x)
    (M : BMod s₁.heap mainGlobals mg bm ob) (B0 : Based s₁.heap s₁.heap cc pt #[]) (hL : s₁.heap.IsList r vs.toArray) (hI : IntsAre vs ns) (hlen : ns.length ≤ 63) (F : Fr s₁.heap s₁.heap.objs.size h₁ mr) (hmr : mr "script" = some (.ref r)) (hcells : ∀ i : Nat, 1 ≤ i → i ≤ 4 → ∃ v, h₁.IsCell (s₁.heap.objs.size + i) v) (hg : AllBare s₁.gens)
    (hQ : ∀ s' h₀ ps m', Based s₁.heap h₀ cc pt ps → Fr h₀ s₁.heap.objs.size s'.heap m' → AllBare s'.gens → s'.os = s₁.os → Q (.ret (.bool true)) s') :
    wpAny (model prog w) (callerA.deeper (envOfC "law" lawF.sc s₁.heap.objs.size fa (.ref cc))) (execs lawF.body (envOfC "law" lawF.sc s₁.heap.objs.size fa (.ref cc))) Q E { heap := h₁, gens := s₁.gens, drawn := s₁.drawn, toks := tk, os := s₁.os } := by
  have hpt : s₁.heap.get? pt = some { cls := .none, data := .fields #[] } := B0.tab.2
  have hptl : pt < s₁.heap.objs.size := Heap.lt_size hpt
  let c : Cx := ⟨prog, w, hideAll s₁.heap [pt], fun g _ => AllBare g⟩
  have kne : ∀ a o, s₁.heap.get? a = some o → a ≠ pt → c.b.get? a = some o := fun a o e n => hideAll_get [pt] e (by simpa using n)
  have kp : ∀ a o, s₁.heap.get? a = some o → (∀ vs, o.data ≠ .fields vs) → c.b.get? a = some o := fun a o e n => kne a o e (by rintro rfl; rw [hpt] at e; cases e; exact n _ rfl)
  have ko : ∀ a o, c.b.get? a = some o → s₁.heap.get? a = some o := fun a o e => of_hideAll [pt] e
  have kns : ∀ {a : Addr} {m : Str → Option Value}, s₁.heap.Ns a m → c.b.Ns a m := fun {a m} ⟨o, es, ep, ho, hd, r⟩ => ⟨o, es, ep, kp a o ho (by rw [hd]; simp), hd, r⟩
  have hsz : c.b.objs.size = s₁.heap.objs.size := hideAll_size [pt] s₁.heap
  have X : (heapK w.params).In c.b := fun a o e => kne a o (KX a o e) (by
    rintro rfl
    have h1 := KX _ _ e
    rw [hpt] at h1
    have h2 := List.all_eq_true.mp (k_noTab w.params) _ (lookup_mem' e)
    rw [← Option.some.inj h1] at h2
    simp at h2)
  have P : Prog c (heapK w.params) ads := prog_of w.params X (let ⟨mc, h1, h2⟩ := tl; ⟨mc, kns h1, h2⟩) (kns tg) (kns tb) tbb
  have hM : BMod c.b mainGlobals mg bm ob := ⟨kns M.ns, M.name, M.ne, kp _ _ M.obj (by rw [M.data]; simp), M.cls, M.dict, M.data⟩
  have EE : LawE c (envOfC "law" lawF.sc s₁.heap.objs.size fa (.ref cc)) s₁.heap.objs.size cc lawL lawG := by
    refine ⟨rfl, fun x hx => ?_, fun x hx => ?_, rfl, rfl, rfl, rfl, fun x hx => ?_, rfl, Nat.le_of_eq hsz⟩
    · have := List.all_eq_true.mp lawl x hx
      show lawF.sc.names.lookup x = _
      simpa using this
    · have := List.all_eq_true.mp lawg x hx
      show lawF.sc.names.lookup x = _
      simpa using this
    · rcases hx with rfl | rfl | rfl | rfl <;> rfl
  have hA : AOk 1 (callerA.deeper (envOfC "law" lawF.sc s₁.heap.objs.size fa (.ref cc))) := ⟨rfl, by show 1 + claimMargin + 1 ≤ 302; decide, by show 4 + 3 ≤ 14; decide⟩
  have hout : ∀ a, s₁.heap.objs.size ≤ a → c.b.get? a = none := fun a h => by
    cases e : c.b.get? a with
    | none => rfl
    | some o => have := Heap.lt_size e; rw [hsz] at this; exact absurd this (Nat.not_lt.mpr h)
  have W : Wt s₁.heap cc pt (upd noH pt (.tab s₁.heap #[])) noH 0 := ⟨s₁.heap, #[], [], rfl, rfl, B0, rfl, by simp⟩
  have G : GH c (upd noH pt (.tab s₁.heap #[])) { heap := h₁, gens := s₁.gens, drawn := s₁.drawn, toks := tk, os := s₁.os } := by
    refine ⟨fun a o e => ?_, fun a o e => F.keep a o (ko a o e), hg⟩
    by_cases ha : a = pt
    · subst ha
      rw [upd_self] at e; cases e
      refine ⟨⟨F.keep _ _ hpt, hpt, hsz.symm, fun x hx => ?_⟩, hideAll_none [a] (by simp)⟩
      cases e : s₁.heap.get? x with
      | some o => exact (kne x o e hx).symm
      | none =>
        cases e' : c.b.get? x with
        | none => rfl
        | some o => rw [ko x o e'] at e; cases e
    · rw [upd_ne ha] at e; cases e
  have hnew : ∀ a, s₁.heap.objs.size ≤ a → upd noH pt (.tab s₁.heap #[]) a = none := fun a h => by
    rw [upd_ne (by rintro rfl; exact absurd hptl (Nat.not_lt.mpr h))]; rfl
  have FF : GF c (envOfC "law" lawF.sc s₁.heap.objs.size fa (.ref cc)) (fun x => if x = "script" then some (.fro ns) else none) (upd noH pt (.tab s₁.heap #[])) { heap := h₁, gens := s₁.gens, drawn := s₁.drawn, toks := tk, os := s₁.os } := by
    refine ⟨hnew _ (Nat.le_refl _), hout _ (Nat.le_refl _), fun x q e => ?_, mr, F.ns, fun x v e => ?_⟩
    · rw [EE.ce] at e
      have : ∃ i, 1 ≤ i ∧ i ≤ 4 ∧ q = s₁.heap.objs.size + i := by
        rcases cellsL_get e with ⟨_, rfl⟩ | ⟨_, rfl⟩ | ⟨_, rfl⟩ | ⟨_, rfl⟩
        · exact ⟨4, by decide, by decide, rfl⟩
        · exact ⟨3, by decide, by decide, rfl⟩
        · exact ⟨2, by decide, by decide, rfl⟩
        · exact ⟨1, by decide, by decide, rfl⟩
      obtain ⟨i, h1, h2, rfl⟩ := this
      exact ⟨hnew _ (Nat.le_add_right _ _), hout _ (Nat.le_add_right _ _), hcells i h1 h2⟩
    · by_cases hx : x = "script"
      · subst hx
        simp only [if_true, Option.some.injEq] at e
        subst e
        obtain ⟨o, ho, hc, n, hd⟩ := hL
        obtain ⟨ts, h1, h2⟩ := ints_tok' hI
        refine .inl ⟨rfl, .ref r, hmr, ?_⟩
        simp only [VR]
        exact ⟨r, vs, rfl, ⟨o, kp r o ho (by rw [hd]; simp), hc, n, hd⟩, ts, h1, h2⟩
      · simp [hx] at e
  refine pass_E (c := c) (law_ok (a := ads) (fun _ _ => Iff.rfl) hA (by decide) P EE hM W (by decide) (by simp) hlen _ G FF) ?_
  rintro f s' ⟨fl, m', H', r1, G', F', t', rfl, H1, n1, gh, ps, ts, e1, rfl, B', e2, e3⟩
  simp only [FlR, VR] at r1
  obtain ⟨rv, rfl, rfl⟩ := r1
  obtain ⟨mr', hn', _⟩ := F'.ns
  obtain ⟨o1, o2, o3, o4⟩ := (G'.objs pt _ (upd_self _ _ _)).1
  refine hQ s' gh ps mr' B' ⟨hn', fun b o e => ?_, Nat.le_of_eq (o3.trans hsz)⟩ G'.bare t'.os
  by_cases hb : b = pt
  · subst hb; rw [o2] at e; cases e; exact o1
  · rw [o4 b hb] at e; exact G'.keep b o e
end Mine
namespace Mine
open PySem PySem.W PySem.Calls PyProof.Rows
set_option maxRecDepth 100000
set_option Elab.async false

noncomputable def vS (x : String) (n : Nat) : Value := .str (Str.ofString x) n
noncomputable def vI (i : Int) (n : Nat) : Value := .int i n
noncomputable def oT (vs : List Value) : Obj := { cls := .type "tuple", data := .seq ⟨vs⟩ }
noncomputable def oN (vs : List Value) : Obj := { cls := .none, data := .fields ⟨vs⟩ }
noncomputable def oF (c : String) (vs : List Value) : Obj := { cls := .type c, data := .fields ⟨vs⟩ }
noncomputable def fnO (cls : Value) (n q : String) (F : FD) (g : Addr) (d kd m c : Value) : Obj := { cls := cls, data := .func { name := Str.ofString n, qualname := Str.ofString q, params := F.args, body := .stmts F.body, scope := F.sc, globals := g, closure := [], defaults := d, kwdefaults := kd, pyModule := m, code := c } }
noncomputable def nmO : List String → Nat → List Value
  | [], _ => []
  | x :: r, k => vS x k :: nmO r (k + 1)
/-- the objects that a def leaves -/
noncomputable def fn7 (r k t : Nat) (n q : String) (F : FD) (line nargs fl : Int) (ns : List String) (m : Value) (tl : List Obj) : List Obj :=
  oT [] :: oN [] :: oT (nmO ns (k + 3)) :: oT [] :: fnO .none n q F 0 .none .none .none .none ::
  oF "code" [vS n k, vS q (k + 1), vS "/claim/cut.py" (k + 2), vI line 0, vI nargs 0, vI 0 0, vI 0 0, vI fl 0, .ref r, .bool true, vI 181 0, .ref (r + 1), .none, .ref (r + 2), .ref (r + 3), .ref (r + 4), vI t 0, vI line 0, vS "/claim/cut.py" (t + 1)] ::
  fnO (.type "function") n q F 3 .none .none m (.ref (r + 5)) :: tl
noncomputable def fn5 (r k t : Nat) (n q : String) (F : FD) (line nargs fl : Int) (m : Value) (tl : List Obj) : List Obj :=
  oT [] :: oN [] :: fnO .none n q F 0 .none .none .none .none ::
  oF "code" [vS n k, vS q (k + 1), vS "/claim/cut.py" (k + 2), vI line 0, vI nargs 0, vI 0 0, vI 0 0, vI fl 0, .ref r, .bool true, vI 181 0, .ref (r + 1), .none, .none, .none, .ref (r + 2), vI t 0, vI line 0, vS "/claim/cut.py" (t + 1)] ::
  fnO (.type "function") n q F 3 .none .none m (.ref (r + 3)) :: tl
noncomputable def eD (p : Params) (k : String) (n : Nat) (v : Value) : DictEntry := { hash := PyData.keyHash p (Str.ofString k), key := vS k n, val := v }
noncomputable def oD (es : List DictEntry) (n : Nat) : Obj := { cls := .type "dict", data := .dict ⟨es⟩ n }

noncomputable def obsA (p : Params) (tl : List Obj) : List Obj :=
  fn7 15 187 191 "_wall" "_wall" (defAt 0) 1 1 3 ["k"] (vS "__main__" 164) <| 
  List.cons (oT []) <| 
  List.cons (oF "builtin_function_or_method" [PySem.Value.builtin "type.__prepare__", PySem.Value.type "type"]) <| 
  List.cons (oD [eD p "__module__" 203 ((vS "canopy.core" 194)), eD p "__qualname__" 205 ((vS "Node" 204)), eD p "__firstlineno__" 207 (vI 5 206), eD p "__init__" 217 (.ref 35), eD p "is_leaf" 224 (.ref 42), eD p "slot" 232 (.ref 49), eD p "lay" 242 (.ref 56), eD p "__static_attributes__" 246 (.ref 57)] 8) <| 
  List.cons (oT []) <| 
  List.cons (oN [vI 7 0, vI 4 0, .ref 34, vI 12 0, vI 4 0, .ref 41, vI 15 0, vI 4 0, .ref 48, vI 18 0, vI 4 0, .ref 55]) <| 
  List.cons (oF "code" [(vS "Node" 198), (vS "Node" 199), (vS "/claim/cut.py" 200), vI 5 0, vI 0 0, vI 0 0, vI 0 0, vI 0 0, .ref 25, .bool false, vI 181 0, .ref 26, .none, .none, .none, .none, vI 201 0, vI 5 0, (vS "/claim/cut.py" 202)]) <| 
  List.cons ({ cls := PySem.Value.type "frame", slots := #[Option.some (.ref 27), Option.some (.ref 3), Option.some (.ref 24), Option.none, Option.some ((vS "canopy.core" 194)), Option.none, Option.some (.ref 0)] }) <| 
  fn7 29 208 215 "__init__" "Node.__init__" (methAt 2 0) 7 4 3 ["self", "keys", "values", "children"] (vS "canopy.core" 194) <| 
  fn7 36 218 222 "is_leaf" "Node.is_leaf" (methAt 2 1) 12 1 3 ["self"] (vS "canopy.core" 194) <| 
  fn7 43 225 230 "slot" "Node.slot" (methAt 2 2) 15 2 3 ["self", "key"] (vS "canopy.core" 194) <| 
  fn7 50 233 240 "lay" "Node.lay" (methAt 2 3) 18 4 3 ["self", "keys", "values", "children"] (vS "canopy.core" 194) <| 
  List.cons (oT [(vS "children" 243), (vS "key_row" 244), (vS "value_row" 245)]) <| 
  List.cons (oD [eD p "__module__" 203 ((vS "canopy.core" 194)), eD p "__firstlineno__" 207 (vI 5 206), eD p "__init__" 217 (.ref 35), eD p "is_leaf" 224 (.ref 42), eD p "slot" 232 (.ref 49), eD p "lay" 242 (.ref 56), eD p "__static_attributes__" 246 (.ref 57), eD p "__dict__" 248 (.ref 60), eD p "__weakref__" 250 (.ref 61), eD p "__doc__" 251 (.none)] 4) <| 
  List.cons ({ cls := PySem.Value.type "type", data := PySem.Data.cls { name := PySem.Str.ofString "Node", bases := [PySem.Value.type "object"], mro := [.ref 59, PySem.Value.type "object"], ns := 58, qualname := PySem.Str.ofString "Node" }, slots := #[Option.none, Option.none, Option.some ((vS "Node" 196)), Option.some ((vS "Node" 204)), Option.some (PySem.Value.builtin "object.__new__"), Option.some (.bool true)] }) <| 
  List.cons (oF "getset_descriptor" [(vS "__dict__" 247), .ref 59, PySem.Value.builtin "function.__dict__", PySem.Value.builtin "function.__dict__#set"]) <| 
  List.cons (oF "getset_descriptor" [(vS "__weakref__" 249), .ref 59, PySem.Value.builtin "ExceptionGroup.__weakref__", .none]) <| 
  List.cons (oF "super" [.ref 59, .ref 59, .ref 59]) <| 
  List.cons (oF "builtin_function_or_method" [PySem.Value.builtin "object.__init_subclass__", .ref 59]) <| tl
noncomputable def obsB (p : Params) (tl : List Obj) : List Obj :=
  List.cons (oT []) <| 
  List.cons (oF "builtin_function_or_method" [PySem.Value.builtin "type.__prepare__", PySem.Value.type "type"]) <| 
  List.cons (oD [eD p "__module__" 261 ((vS "canopy.core" 194)), eD p "__qualname__" 263 ((vS "Canopy" 262)), eD p "__firstlineno__" 265 (vI 20 264), eD p "__init__" 273 (.ref 77), eD p "adopt" 282 (.ref 84), eD p "lookup" 290 (.ref 91), eD p "height" 299 (.ref 98), eD p "split_child" 308 (.ref 105), eD p "put" 317 (.ref 112), eD p "merge_children" 326 (.ref 119), eD p "borrow_from_left" 335 (.ref 126), eD p "borrow_from_right" 344 (.ref 133), eD p "fill_child" 353 (.ref 140), eD p "least_below" 361 (.ref 147), eD p "greatest_below" 369 (.ref 154), eD p "delete" 377 (.ref 161), eD p "pairs_below" 385 (.ref 168), eD p "pairs" 392 (.ref 175), eD p "shape_ok" 407 (.ref 182), eD p "keys_ok" 425 (.ref 189), eD p "leaf_level" 438 (.ref 196), eD p "check" 445 (.ref 203), eD p "range_below" 455 (.ref 210), eD p "count_below" 467 (.ref 217), eD p "rank_of" 475 (.ref 224), eD p "select_key" 483 (.ref 231), eD p "next_key" 491 (.ref 238), eD p "flat_below" 505 (.ref 245), eD p "flat" 512 (.ref 252), eD p "__static_attributes__" 516 (.ref 253)] 30) <| 
  List.cons (oT []) <| 
  List.cons (oN [vI 22 0, vI 4 0, .ref 76, vI 27 0, vI 4 0, .ref 83, vI 31 0, vI 4 0, .ref 90, vI 34 0, vI 4 0, .ref 97, vI 42 0, vI 4 0, .ref 104, vI 45 0, vI 4 0, .ref 111, vI 48 0, vI 4 0, .ref 118, vI 51 0, vI 4 0, .ref 125, vI 54 0, vI 4 0, .ref 132, vI 57 0, vI 4 0, .ref 139, vI 60 0, vI 4 0, .ref 146, vI 63 0, vI 4 0, .ref 153, vI 66 0, vI 4 0, .ref 160, vI 69 0, vI 4 0, .ref 167, vI 72 0, vI 4 0, .ref 174, vI 75 0, vI 4 0, .ref 181, vI 93 0, vI 4 0, .ref 188, vI 117 0, vI 4 0, .ref 195, vI 133 0, vI 4 0, .ref 202, vI 142 0, vI 4 0, .ref 209, vI 145 0, vI 4 0, .ref 216, vI 156 0, vI 4 0, .ref 223, vI 159 0, vI 4 0, .ref 230, vI 162 0, vI 4 0, .ref 237, vI 165 0, vI 4 0, .ref 244, vI 181 0, vI 4 0, .ref 251]) <| 
  List.cons (oF "code" [(vS "Canopy" 256), (vS "Canopy" 257), (vS "/claim/cut.py" 258), vI 20 0, vI 0 0, vI 0 0, vI 0 0, vI 0 0, .ref 67, .bool false, vI 181 0, .ref 68, .none, .none, .none, .none, vI 259 0, vI 20 0, (vS "/claim/cut.py" 260)]) <| 
  List.cons ({ cls := PySem.Value.type "frame", slots := #[Option.some (.ref 69), Option.some (.ref 3), Option.some (.ref 66), Option.none, Option.some ((vS "canopy.core" 194)), Option.none, Option.some (.ref 0)] }) <| 
  fn7 71 266 271 "__init__" "Canopy.__init__" (methAt 3 0) 22 2 3 ["self", "t"] (vS "canopy.core" 194) <| 
  fn7 78 274 280 "adopt" "Canopy.adopt" (methAt 3 1) 27 3 3 ["self", "root", "size"] (vS "canopy.core" 194) <| 
  fn7 85 283 288 "lookup" "Canopy.lookup" (methAt 3 2) 31 2 3 ["self", "key"] (vS "canopy.core" 194) <| 
  fn7 92 291 297 "height" "Canopy.height" (methAt 3 3) 34 1 3 ["self", "node", "levels"] (vS "canopy.core" 194) <| 
  fn7 99 300 306 "split_child" "Canopy.split_child" (methAt 3 4) 42 3 3 ["self", "parent", "i"] (vS "canopy.core" 194) <| 
  fn7 106 309 315 "put" "Canopy.put" (methAt 3 5) 45 3 3 ["self", "key", "value"] (vS "canopy.core" 194) <| 
  fn7 113 318 324 "merge_children" "Canopy.merge_children" (methAt 3 6) 48 3 3 ["self", "parent", "i"] (vS "canopy.core" 194) <| 
  fn7 120 327 333 "borrow_from_left" "Canopy.borrow_from_left" (methAt 3 7) 51 3 3 ["self", "parent", "i"] (vS "canopy.core" 194) <| 
  fn7 127 336 342 "borrow_from_right" "Canopy.borrow_from_right" (methAt 3 8) 54 3 3 ["self", "parent", "i"] (vS "canopy.core" 194) <| 
  fn7 134 345 351 "fill_child" "Canopy.fill_child" (methAt 3 9) 57 3 3 ["self", "parent", "i"] (vS "canopy.core" 194) <| 
  fn7 141 354 359 "least_below" "Canopy.least_below" (methAt 3 10) 60 2 3 ["self", "node"] (vS "canopy.core" 194) <| 
  fn7 148 362 367 "greatest_below" "Canopy.greatest_below" (methAt 3 11) 63 2 3 ["self", "node"] (vS "canopy.core" 194) <| 
  fn7 155 370 375 "delete" "Canopy.delete" (methAt 3 12) 66 2 3 ["self", "key"] (vS "canopy.core" 194) <| 
  fn7 162 378 383 "pairs_below" "Canopy.pairs_below" (methAt 3 13) 69 2 3 ["self", "node"] (vS "canopy.core" 194) <| 
  fn7 169 386 390 "pairs" "Canopy.pairs" (methAt 3 14) 72 1 3 ["self"] (vS "canopy.core" 194) <| 
  fn7 176 393 405 "shape_ok" "Canopy.shape_ok" (methAt 3 15) 75 3 3 ["self", "node", "is_root", "t", "stack", "top", "here", "n", "child"] (vS "canopy.core" 194) <| 
  fn7 183 408 423 "keys_ok" "Canopy.keys_ok" (methAt 3 16) 93 4 3 ["self", "node", "low", "high", "stack", "top", "here", "row", "i", "j", "lo", "hi"] (vS "canopy.core" 194) <| 
  fn7 190 426 436 "leaf_level" "Canopy.leaf_level" (methAt 3 17) 117 2 3 ["self", "node", "level", "stack", "top", "here", "child"] (vS "canopy.core" 194) <| 
  fn7 197 439 443 "check" "Canopy.check" (methAt 3 18) 133 1 3 ["self"] (vS "canopy.core" 194) <| 
  fn7 204 446 453 "range_below" "Canopy.range_below" (methAt 3 19) 142 4 3 ["self", "node", "low", "high"] (vS "canopy.core" 194) <| 
  fn7 211 456 465 "count_below" "Canopy.count_below" (methAt 3 20) 145 2 3 ["self", "node", "total", "stack", "here", "child"] (vS "canopy.core" 194) <| 
  fn7 218 468 473 "rank_of" "Canopy.rank_of" (methAt 3 21) 156 2 3 ["self", "key"] (vS "canopy.core" 194) <| 
  fn7 225 476 481 "select_key" "Canopy.select_key" (methAt 3 22) 159 2 3 ["self", "k"] (vS "canopy.core" 194) <| 
  fn7 232 484 489 "next_key" "Canopy.next_key" (methAt 3 23) 162 2 3 ["self", "key"] (vS "canopy.core" 194) <| 
  fn7 239 492 503 "flat_below" "Canopy.flat_below" (methAt 3 24) 165 2 3 ["self", "node", "out", "stack", "here", "k", "v", "j"] (vS "canopy.core" 194) <| 
  fn7 246 506 510 "flat" "Canopy.flat" (methAt 3 25) 181 1 3 ["self"] (vS "canopy.core" 194) <| 
  List.cons (oT [(vS "root" 513), (vS "size" 514), (vS "t" 515)]) <| 
  List.cons (oD [eD p "__module__" 261 ((vS "canopy.core" 194)), eD p "__firstlineno__" 265 (vI 20 264), eD p "__init__" 273 (.ref 77), eD p "adopt" 282 (.ref 84), eD p "lookup" 290 (.ref 91), eD p "height" 299 (.ref 98), eD p "split_child" 308 (.ref 105), eD p "put" 317 (.ref 112), eD p "merge_children" 326 (.ref 119), eD p "borrow_from_left" 335 (.ref 126), eD p "borrow_from_right" 344 (.ref 133), eD p "fill_child" 353 (.ref 140), eD p "least_below" 361 (.ref 147), eD p "greatest_below" 369 (.ref 154), eD p "delete" 377 (.ref 161), eD p "pairs_below" 385 (.ref 168), eD p "pairs" 392 (.ref 175), eD p "shape_ok" 407 (.ref 182), eD p "keys_ok" 425 (.ref 189), eD p "leaf_level" 438 (.ref 196), eD p "check" 445 (.ref 203), eD p "range_below" 455 (.ref 210), eD p "count_below" 467 (.ref 217), eD p "rank_of" 475 (.ref 224), eD p "select_key" 483 (.ref 231), eD p "next_key" 491 (.ref 238), eD p "flat_below" 505 (.ref 245), eD p "flat" 512 (.ref 252), eD p "__static_attributes__" 516 (.ref 253), eD p "__dict__" 518 (.ref 256), eD p "__weakref__" 520 (.ref 257), eD p "__doc__" 521 (.none)] 4) <| 
  List.cons ({ cls := PySem.Value.type "type", data := PySem.Data.cls { name := PySem.Str.ofString "Canopy", bases := [PySem.Value.type "object"], mro := [.ref 255, PySem.Value.type "object"], ns := 254, qualname := PySem.Str.ofString "Canopy" }, slots := #[Option.none, Option.none, Option.some ((vS "Canopy" 254)), Option.some ((vS "Canopy" 262)), Option.some (PySem.Value.builtin "object.__new__"), Option.some (.bool true)] }) <| 
  List.cons (oF "getset_descriptor" [(vS "__dict__" 517), .ref 255, PySem.Value.builtin "function.__dict__", PySem.Value.builtin "function.__dict__#set"]) <| 
  List.cons (oF "getset_descriptor" [(vS "__weakref__" 519), .ref 255, PySem.Value.builtin "ExceptionGroup.__weakref__", .none]) <| 
  List.cons (oF "super" [.ref 255, .ref 255, .ref 255]) <| 
  List.cons (oF "builtin_function_or_method" [PySem.Value.builtin "object.__init_subclass__", .ref 255]) <| tl
noncomputable def obsC (tl : List Obj) : List Obj :=
  List.cons (oT [vI 1 526]) <| 
  List.cons (oT [vI 2 527]) <| 
  List.cons (oT [vI 3 528]) <| 
  List.cons (oT [vI 2 529, vI 2 530]) <| 
  List.cons (oT [vI 3 531, vI 1 532]) <| 
  List.cons (oT [vI 1 533, vI 3 534]) <| 
  List.cons (oT [vI 3 535, vI 3 536]) <| 
  List.cons (oT [.ref 260, .ref 261, .ref 262, .ref 263, .ref 264, .ref 265, .ref 266]) <| 
  List.cons (oT [vI 0 538, vI 0 539, vI 0 540]) <| 
  List.cons (oT [vI 0 541, vI 0 542, vI 0 543]) <| 
  List.cons (oT [vI 0 544, vI 0 545, vI 0 546]) <| 
  List.cons (oT [vI 0 547, vI 0 548, vI 0 549]) <| 
  List.cons (oT [vI 1 550, vI 0 551, vI 0 552]) <| 
  List.cons (oT [vI 2 553, vI 0 554, vI 0 555]) <| 
  List.cons (oT [vI 0 556, vI 1 557, vI 0 558]) <| 
  List.cons (oT [vI 0 559, vI 2 560, vI 0 561]) <| 
  List.cons (oT [vI 0 562, vI 0 563, vI 1 564]) <| 
  List.cons (oT [vI 0 565, vI 0 566, vI 2 567]) <| 
  List.cons (oT [vI 0 568, vI 0 569, vI 0 570]) <| 
  List.cons (oT [vI 0 571, vI 0 572, vI 0 573]) <| 
  List.cons (oT [.ref 268, .ref 269, .ref 270, .ref 271, .ref 272, .ref 273, .ref 274, .ref 275, .ref 276, .ref 277, .ref 278, .ref 279]) <| 
  fn7 281 575 585 "_law_sizes" "_law_sizes" (defAt 7) 186 5 3 ["t", "total", "cells", "kind", "place", "sizes", "cell"] (vS "law_sx_zcanopyofobjects_4" 524) <| 
  fn5 288 588 591 "_law_row" "_law_row" (defAt 8) 196 5 3 (vS "law_sx_zcanopyofobjects_4" 524) <| 
  fn7 293 594 603 "_law_cut" "_law_cut" (defAt 9) 202 2 3 ["row", "sizes", "keys", "parts", "pos", "n"] (vS "law_sx_zcanopyofobjects_4" 524) <| 
  fn5 300 606 609 "_law_lay" "_law_lay" (defAt 10) 211 4 3 (vS "law_sx_zcanopyofobjects_4" 524) <| 
  fn7 305 612 623 "_law_twig" "_law_twig" (defAt 11) 226 4 3 ["row", "sizes", "hurt", "depth", "keys", "parts", "kids", "part"] (vS "law_sx_zcanopyofobjects_4" 524) <| 
  fn5 312 626 629 "_law_tree" "_law_tree" (defAt 12) 238 5 3 (vS "law_sx_zcanopyofobjects_4" 524) <| 
  fn5 317 632 635 "law" "law" (defAt 13) 254 1 3 (vS "law_sx_zcanopyofobjects_4" 524) <| tl
/-- the heap at a place of the top's run -/
noncomputable def heapAt (p : Params) (g d : Obj) (tl : List Obj) : Heap := ⟨⟨boot_o_0 p :: boot_o_1 p :: boot_o_2 p :: g :: boot_o_4 p :: boot_o_5 p :: boot_o_6 p :: boot_o_7 p :: boot_o_8 p :: boot_o_9 p :: boot_o_10 p ::
  (oT []) :: d :: (oF "code" [(vS "<module>" 182), (vS "<module>" 183), (vS "/claim/cut.py" 184), vI 1 0, vI 0 0, vI 0 0, vI 0 0, vI 0 0, .ref 11, .bool false, vI 181 0, .ref 12, .none, .none, .none, .none, vI 185 0, vI 1 0, (vS "/claim/cut.py" 186)]) :: ({ cls := PySem.Value.type "frame", slots := #[Option.some (.ref 13), Option.some (.ref 3), Option.some (.ref 3), Option.none, Option.some ((vS "__main__" 164)), Option.none, Option.some (.ref 0)] }) :: tl⟩, {}⟩
noncomputable def hp0 (p : Params) : Heap := heapAt p (boot_o_3 p) (oN []) []
noncomputable def hpA (p : Params) : Heap := heapAt p (oD [eD p "__name__" 165 ((vS "canopy.core" 194)), eD p "__doc__" 166 (.none), eD p "__package__" 167 (.none), eD p "__loader__" 168 (PySem.Value.builtin "__main__.__loader__#opaque"), eD p "__spec__" 169 (.none), eD p "__annotations__" 170 (.ref 6), eD p "__builtins__" 171 (.ref 4), eD p "__file__" 173 ((vS "/claim/cut.py" 172)), eD p "__cached__" 174 (.none), eD p "_wall" 193 (.ref 21), eD p "Node" 253 (.ref 59)] 11) (oN [vI 1 0, vI 0 0, .ref 20, vI 5 0, vI 0 0, .ref 27]) (obsA p [])
noncomputable def hpB (p : Params) : Heap := heapAt p (oD [eD p "__name__" 165 ((vS "canopy.core" 194)), eD p "__doc__" 166 (.none), eD p "__package__" 167 (.none), eD p "__loader__" 168 (PySem.Value.builtin "__main__.__loader__#opaque"), eD p "__spec__" 169 (.none), eD p "__annotations__" 170 (.ref 6), eD p "__builtins__" 171 (.ref 4), eD p "__file__" 173 ((vS "/claim/cut.py" 172)), eD p "__cached__" 174 (.none), eD p "_wall" 193 (.ref 21), eD p "Node" 253 (.ref 59), eD p "Canopy" 523 (.ref 255)] 12) (oN [vI 1 0, vI 0 0, .ref 20, vI 5 0, vI 0 0, .ref 27, vI 20 0, vI 0 0, .ref 69]) (obsA p (obsB p []))
noncomputable def hpC (p : Params) : Heap := heapAt p (oD [eD p "__name__" 165 ((vS "law_sx_zcanopyofobjects_4" 524)), eD p "__doc__" 166 (.none), eD p "__package__" 167 (.none), eD p "__loader__" 168 (PySem.Value.builtin "__main__.__loader__#opaque"), eD p "__spec__" 169 (.none), eD p "__annotations__" 170 (.ref 6), eD p "__builtins__" 171 (.ref 4), eD p "__file__" 173 ((vS "/claim/cut.py" 172)), eD p "__cached__" 174 (.none), eD p "_wall" 193 (.ref 21), eD p "Node" 253 (.ref 59), eD p "Canopy" 523 (.ref 255), eD p "_law_SHAPES" 537 (.ref 267), eD p "_law_HURTS" 574 (.ref 280), eD p "_law_sizes" 587 (.ref 287), eD p "_law_row" 593 (.ref 292), eD p "_law_cut" 605 (.ref 299), eD p "_law_lay" 611 (.ref 304), eD p "_law_twig" 625 (.ref 311), eD p "_law_tree" 631 (.ref 316), eD p "law" 637 (.ref 321)] 21) (oN [vI 1 0, vI 0 0, .ref 20, vI 5 0, vI 0 0, .ref 27, vI 20 0, vI 0 0, .ref 69, vI 186 0, vI 0 0, .ref 286, vI 196 0, vI 0 0, .ref 291, vI 202 0, vI 0 0, .ref 298, vI 211 0, vI 0 0, .ref 303, vI 226 0, vI 0 0, .ref 310, vI 238 0, vI 0 0, .ref 315, vI 254 0, vI 0 0, .ref 320]) (obsA p (obsB p (obsC [])))

noncomputable abbrev prQ : Program := PySem.Challenge.pw_sx_zcanopyofobjects_4
/-- the statement of the program's top at i -/
noncomputable def stAt (i : Nat) : Stmt := prQ.main.body[i]?.getD default
noncomputable def envQ : Env := { scope := prQ.main.scope, locals := mainNs, globals := mainNs, cells := [], code := .ref 13, frame := some 14 }
noncomputable def bodyQ : List Stmt := behindTheImports prQ
noncomputable def codeQ : Code := .body bodyQ envQ
noncomputable def annQ : Option Value := some (.ref 6)
noncomputable def pos0 : Pos := ⟨0, 0, 0, 0⟩
noncomputable def posA : Pos := ⟨5, 0, 19, 16⟩
noncomputable def posB : Pos := ⟨20, 0, 182, 52⟩
noncomputable def posC : Pos := ⟨254, 0, 315, 15⟩
noncomputable def lA : List Stmt := [stAt 0, stAt 1, stAt 2]
noncomputable def lB : List Stmt := [stAt 3]
noncomputable def lC : List Stmt := [stAt 4, stAt 5, stAt 6, stAt 7, stAt 8, stAt 9, stAt 10, stAt 11, stAt 12, stAt 13]
theorem body_eq : bodyQ = lA ++ (lB ++ (lC ++ [])) := by kernel_rfl
noncomputable def shAt (h : Params → Heap) (k : Nat) (w : World) (os : OsState) : Shared := ⟨h w.params, Array.mk [], boot_drawn, k, os⟩
theorem p_pre (w : World) (os : OsState) : topGo treeTable prQ w 11 annQ 12 (shAt boot_heap boot_toks w os) (topStub prQ) = some (shAt hp0 187 w os, ⟨denote treeTable codeQ, codeQ, pos0, [topFrame pos0]⟩) := by
  first | (rw [Fast.te15667345088766844465, Fast.te14364793385576792824, Fast.te11892475500146522536]; kernel_rfl) | kernel_rfl
theorem p_block (w : World) (os : OsState) : segRun treeTable prQ w 11 annQ 1 1 (shAt hp0 187 w os) (blockOf bodyQ envQ codeQ pos0 [topFrame pos0]) = some (.next, shAt hp0 187 w os, codeQ, pos0) := by
  first | (rw [Fast.te14374325043358763698, Fast.te14364793385576792824]; kernel_rfl) | kernel_rfl
noncomputable def btOf : List Obj → Nat → BT → BT
  | [], _, t => t
  | o :: r, n, t => btOf r (n + 1) (t.ins n o)
/-- the same state, its heap as a tree -/
noncomputable def shT (h : Params → Heap) (n k : Nat) (w : World) (os : OsState) : SharedT := ⟨btOf (h w.params).objs.toList 0 .nil, n, {}, Array.mk [], boot_drawn, k, os⟩
theorem abs_0 (w : World) (os : OsState) : (shT hp0 15 187 w os).abs = shAt hp0 187 w os := by kernel_rfl
theorem abs_A (w : World) (os : OsState) : (shT hpA 64 254 w os).abs = shAt hpA 254 w os := by kernel_rfl
theorem abs_B (w : World) (os : OsState) : (shT hpB 260 524 w os).abs = shAt hpB 524 w os := by kernel_rfl
theorem abs_C (w : World) (os : OsState) : (shT hpC 322 638 w os).abs = shAt hpC 638 w os := by kernel_rfl
theorem seg_tree {w : World} {n : Nat} {s s' : SharedT} {a a' : Shared} {t : Thread} {c : Code} {q : Pos} (h : segRunT treeTable prQ w 11 annQ 1 n s t = some (.next, s', c, q)) (e : s.abs = a) (e' : s'.abs = a') : segRun treeTable prQ w 11 annQ 1 n a t = some (.next, a', c, q) := by
  rw [← e, ← e']; exact segRun_of h
theorem t_A (w : World) (os : OsState) : segRunT treeTable prQ w 11 annQ 1 400 (shT hp0 15 187 w os) (piecesOf lA envQ codeQ pos0 [topFrame pos0]) = some (.next, shT hpA 64 254 w os, codeQ, posA) := by
  first | (rw [Fast.te10110043849684766642, Fast.te14364793385576792824]; kernel_rfl) | kernel_rfl
theorem t_B (w : World) (os : OsState) : segRunT treeTable prQ w 11 annQ 1 1200 (shT hpA 64 254 w os) (piecesOf lB envQ codeQ posA [topFrame pos0]) = some (.next, shT hpB 260 524 w os, codeQ, posB) := by
  first | (rw [Fast.te10110043849684766642, Fast.te14364793385576792824]; kernel_rfl) | kernel_rfl
theorem t_C (w : World) (os : OsState) : segRunT treeTable prQ w 11 annQ 1 400 (shT hpB 260 524 w os) (piecesOf lC envQ codeQ posB [topFrame pos0]) = some (.next, shT hpC 322 638 w os, codeQ, posC) := by
  first | (rw [Fast.te10110043849684766642, Fast.te14364793385576792824]; kernel_rfl) | kernel_rfl
theorem p_fin (w : World) (os : OsState) : topRun treeTable prQ w 11 annQ 5 (shAt hpC 638 w os) ⟨doneF .next, codeQ, posC, [topFrame pos0]⟩ = some (shAt hpC 638 w os) := by kernel_rfl
theorem run_ok (w : World) (os : OsState) : topRun treeTable prQ w 11 annQ (12 + (1 + (400 + (1200 + (400 + 5))))) (shAt boot_heap boot_toks w os) (topStub prQ) = some (shAt hpC 638 w os) :=
  go_top (p_pre w os) (piece_block (env := envQ) (b := bodyQ) (p_block w os) (by
    rw [body_eq]
    exact piece_app (seg_tree (t_A w os) (abs_0 w os) (abs_A w os)) (piece_app (seg_tree (t_B w os) (abs_A w os) (abs_B w os)) (piece_app (seg_tree (t_C w os) (abs_B w os) (abs_C w os)) (piece_nil (p_fin w os))))))
theorem size_ok (w : World) : ((boot_heap w.params).isNs mainGlobals && (Array.mk [] : Array GenState).size == 0, (boot_heap w.params).objs.size, (boot_heap w.params).nsMap mainGlobals "__annotations__") = (true, 11, annQ) := by kernel_rfl
theorem open_ok (w : World) : (fencedOpening treeTable prQ w 3620).map (fun s => (s.heap, s.gens, s.drawn, s.toks)) = some (boot_heap w.params, Array.mk [], boot_drawn, boot_toks) := boot_open (by kernel_rfl) rfl (fun s => by kernel_rfl) w
end Mine
namespace Mine
open PySem PySem.W PySem.Calls PyProof.Rows
set_option maxRecDepth 100000
set_option maxHeartbeats 4000000
set_option Elab.async false
noncomputable def viewQ : Program := { prQ with main := { prQ.main with body := [stAt 0, stAt 2, stAt 3, stAt 5, stAt 6, stAt 7, stAt 8, stAt 9, stAt 10, stAt 11, stAt 12, stAt 13] } }
noncomputable abbrev rowQ : RowW := OpenRow.toRowW (OpenLaw.row PySem.Challenge.rw_sx_zcanopyofobjects_4)
theorem hookE (P : Params) : heapA = (heapK P).map (·.1) := by kernel_rfl
noncomputable def hookQ : Hook := kHook heapK heapA hookE
noncomputable abbrev xtQ (s : Shared) : Bool := xlAt viewQ [] s && recOk (RowW.records rowQ) s
theorem pair2 {α β : Type} {a a' : α} {b b' : β} (x : a = a') (y : b = b') : (a, b) = (a', b') := by rw [x, y]
noncomputable abbrev sQ (w : World) (os : OsState) : Shared := shAt hpC 638 w os
theorem k_st (w : World) : staticsOk (importedModules prQ.main.body) (boot_heap w.params) (hpC w.params) = true := by kernel_rfl
theorem k_nb (w : World) : namesBound prQ (hpC w.params) = true := by kernel_rfl
theorem k_gd (w : World) (os : OsState) : gensDone (sQ w os) = true := by kernel_rfl
theorem k_lk (w : World) : laidKept (boot_heap w.params) (hpC w.params) = true := by kernel_rfl
theorem k_hook (w : World) (os : OsState) : Hook.obs hookQ (sQ w os) = Hook.val hookQ w := by kernel_rfl
theorem k_1 (w : World) (os : OsState) : seen ((recsOf viewQ).map (·.name)) (ownsOf viewQ) [] { (sQ w os) with gens := #[] } = expectedOf viewQ := by kernel_rfl
theorem k_2 (w : World) (os : OsState) : (sQ w os).heap.bltView = bltViewBooted := by kernel_rfl
theorem k_3 (w : World) (os : OsState) : ((sQ w os).heap.keysOk (looseW viewQ []) ((recsOf viewQ).map (·.name)) ((litsOf viewQ).map (·.1)) ((clssOf viewQ (looseW viewQ [])).map (·.name)) && (sQ w os).heap.accountedOkI (importedModules prQ.main.body) && (sQ w os).heap.isNs mainGlobals && (sQ w os).heap.isNs builtinsNs && tablesOk viewQ (sQ w os).heap && xtQ (sQ w os) && (if true then (sQ w os).gens.size == 0 else !leftWithCleanup (sQ w os).gens)) = true := by kernel_rfl
theorem k_4 (w : World) (os : OsState) : tabsOk viewQ (sQ w os) = true := by kernel_rfl
theorem k_5 (w : World) (os : OsState) : pinSeenD viewQ (drecsOf viewQ) (sQ w os) = pinGoodD (drecsOf viewQ) := by kernel_rfl
theorem k_6 (w : World) (os : OsState) : plainSeenE viewQ (looseW viewQ []) (sQ w os) = plainGoodE viewQ (looseW viewQ []) := by kernel_rfl
theorem k_7 (w : World) (os : OsState) : plainSeenD viewQ [] (sQ w os) = plainGoodD viewQ [] := by kernel_rfl
theorem k_8 (w : World) (os : OsState) : wideSeen viewQ (sQ w os) = wideGood viewQ := by kernel_rfl
theorem k_9 (w : World) (os : OsState) : clsSeenW viewQ [] (sQ w os) = clsGoodW viewQ [] := by kernel_rfl
theorem left_ok : LeftO prQ viewQ [] xtQ (Hook.obs hookQ) (Hook.val hookQ) 3620 :=
  LeftO.of_pieces (H₀ := boot_heap) (H₁ := hpC) (gs₁ := Array.mk []) (d₁ := boot_drawn) (k₁ := 638) open_ok size_ok run_ok rfl fun w => funext fun os =>
    pair2 (by rw [k_st w, k_nb w, k_lk w, show gensDone ⟨hpC w.params, Array.mk [], boot_drawn, 638, os⟩ = true from k_gd w os]; rfl)
      (pair2 (pair2 (k_1 w os) (pair2 (k_2 w os) (pair2 (k_3 w os) (pair2 (k_4 w os) (pair2 (k_5 w os) (pair2 (k_6 w os) (pair2 (k_7 w os) (pair2 (k_8 w os) (k_9 w os))))))))) (k_hook w os))
end Mine
open PySem PySem.W PyProof.Rows
set_option maxRecDepth 100000 in
set_option maxHeartbeats 8000000 in
theorem PySem.Challenge.cw_sx_zcanopyofobjects_4_holds : PySem.Challenge.rw_sx_zcanopyofobjects_4.Holds := by
  w_on
  o_law
  refine holds_open (q := Mine.viewQ) (loose := []) (Xt := Mine.xtQ) (XP := XL Mine.viewQ []) (Yf := Hook.obs Mine.hookQ) (Ya := Hook.val Mine.hookQ) (YP := Hook.says Mine.hookQ) (N := 3620) Mine.left_ok (Hook.of Mine.hookQ) (Hook.keeps Mine.hookQ) (fun s e => xl_of s (Bool.and_eq_true_iff.mp e).1) XL.keeps (by rfl) (by rfl) (by rfl) (fun s e => recFacts_of (Bool.and_eq_true_iff.mp e).2) (by rfl) (by first | assumption | decide +kernel) (by decide +kernel) ⟨rfl, rfl, rfl, rfl, rfl, by decide +kernel⟩ ?hw ?hc
  (case hw => w_witness2)
  w_strict (
    intro w s₀ s₁ mg mb G Y fa o pm cd doc dV kV ho hd hcd hD hmg hg args vals as hpre hlay hrd hwl hlo
    have KX := kIn_of Y
    refine Ground.open G ?_
    intro T B D TE TW
    try (refine guard_noD D (by decide +kernel) ?_; clear D)
    obtain ⟨bm, ob, M⟩ := bmod_of_top T
    have TA := at_of_top T
    obtain ⟨cc, pt, he, B0⟩ := based_of_top T rfl hmg ho hd
    have he' : cd = _ := he
    subst he'
    clear he
    clear hmg
    wrow_args hpre hlay hrd hwl hlo
    all_goals (
      first | refine callC_kw (enter_call ?_) | refine enter_call ?_ | refine callC_kw (enter_callW ?_) | refine enter_callW ?_ | w_how
      w_top on
      w_call any ho hd hcd hD T F
      clear hd TA)
    rename_i ns hs hlay0 hL1 hr1 hl2 as1 as2 r vs as3 hL ra w1 r0 hI hr hc1 hc2 h₁ tk o1 o2 o3 o4 d1 d2 d3 d4 N0 X0
    refine Mine.final KX T.g T.b T.nolimit T.builtins M B0 hL hI (by omega) F rfl (fun i h1 h2 => ?_) (.of_eq hg) fun s' h₀ ps m' B' F' hg' hos => goodWG_reads B' F' hg' (fun _ => rfl) (.bool true) (fun _ => ⟨.nil, fun _ ha => nomatch ha⟩) ?_ hos
    · match i, h1, h2 with
      | 1, _, _ => exact ⟨_, o4, N0.get (by simp), d4⟩
      | 2, _, _ => exact ⟨_, o3, N0.get (by simp), d3⟩
      | 3, _, _ => exact ⟨_, o2, N0.get (by simp), d2⟩
      | 4, _, _ => exact ⟨_, o1, N0.get (by simp), d1⟩
    · refine postW_of (X := true) ?_ ?_ rfl
      · with_unfolding_all rfl
      · with_unfolding_all rfl)
