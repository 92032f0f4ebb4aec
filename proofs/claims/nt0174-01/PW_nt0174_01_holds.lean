import PyProof.Rows.All
import Wide.All
import OpenK.AllK
import Wide.FinOn
import PySem.Challenge.RW_nt0174_01
open PySem PySem.W PyProof.Rows
set_option Elab.async false
set_option linter.unusedVariables false
set_option compiler.extract_closed false

namespace Mine
-- part G1
section
/-! ## The ghost heap -/
structure Cx where
  prog : Program
  w : World
  B : Heap
  K : Frag
  mg : Str → Option Value
  mb : Str → Option Value

structure Cx.Ok (c : Cx) : Prop where
  kin : c.K.In c.B
  g : c.B.Ns mainGlobals c.mg
  b : c.B.Ns builtinsNs c.mb
  nolimit : c.B.NoLimit
  blt : ∀ x, x ≠ ("__name__" : Str) → c.mb x = bootBuiltins x

noncomputable abbrev Cx.M (c : Cx) : Model := model c.prog c.w

inductive AO where
  | lst (vs : List Value)
  | tup (vs : List Value)
  | dic (kvs : List (Int × Value)) (ep : Nat)
  | raw (o : Obj)

noncomputable def RepH (c : Cx) (h : Heap) (a : Addr) : AO → Prop
  | .lst vs => ∃ n, h.get? a = some { cls := .type "list", data := .seq vs.toArray n }
  | .tup vs => h.get? a = some { cls := .type "tuple", data := .seq vs.toArray }
  | .dic kvs ep => h.DictAt (intKind c.prog c.w) a kvs ep ∧ (a == sysModules) = false
  | .raw o => h.get? a = some o

theorem RepH.ex {c : Cx} {h : Heap} {a : Addr} {ao : AO} (x : RepH c h a ao) : ∃ o, h.get? a = some o := by
  cases ao with
  | lst vs => obtain ⟨n, h1⟩ := x; exact ⟨_, h1⟩
  | tup vs => exact ⟨_, x⟩
  | dic kvs ep => obtain ⟨⟨o, es, h1, _⟩, _⟩ := x; exact ⟨o, h1⟩
  | raw o => exact ⟨o, x⟩

theorem RepH.keep {c : Cx} {h h' : Heap} {a : Addr} {ao : AO} (x : RepH c h a ao) (e : ∀ o, h.get? a = some o → h'.get? a = some o) : RepH c h' a ao := by
  cases ao with
  | lst vs => obtain ⟨n, h1⟩ := x; exact ⟨n, e _ h1⟩
  | tup vs => exact e _ x
  | dic kvs ep => obtain ⟨⟨o, es, h1, r⟩, r2⟩ := x; exact ⟨⟨o, es, e _ h1, r⟩, r2⟩
  | raw o => exact e _ x

theorem RepH.isList {c : Cx} {h : Heap} {a : Addr} {vs : List Value} (x : RepH c h a (.lst vs)) : h.IsList a vs.toArray := let ⟨n, e⟩ := x; ⟨_, e, rfl, n, rfl⟩
theorem RepH.isTup {c : Cx} {h : Heap} {a : Addr} {vs : List Value} (x : RepH c h a (.tup vs)) : IsTup h a vs.toArray := ⟨_, x, rfl, 0, rfl⟩
theorem RepH.lt {c : Cx} {h : Heap} {a : Addr} {ao : AO} (x : RepH c h a ao) : a < h.objs.size := by
  obtain ⟨o, e⟩ := x.ex; exact Heap.lt_size e

noncomputable abbrev GH := Addr → Option AO

noncomputable def Has (c : Cx) (g : GH) (h : Heap) : Prop := ∀ b ao, g b = some ao → RepH c h b ao

noncomputable def upd (g : GH) (a : Addr) (ao : AO) : GH := fun b => if b = a then some ao else g b
@[simp] theorem upd_self (g : GH) (a : Addr) (ao : AO) : upd g a ao a = some ao := by simp [upd]
theorem upd_ne {g : GH} {a b : Addr} {ao : AO} (h : b ≠ a) : upd g a ao b = g b := by simp [upd, h]

/-- all of g but W stands in g' -/
noncomputable def LeB (W : Addr → Prop) (g g' : GH) : Prop := ∀ b ao, ¬ W b → g b = some ao → g' b = some ao
noncomputable abbrev Le (g g' : GH) : Prop := ∀ b ao, g b = some ao → g' b = some ao
theorem Le.refl (g : GH) : Le g g := fun _ _ e => e
theorem Le.trans {g g' g'' : GH} (x : Le g g') (y : Le g' g'') : Le g g'' := fun b ao e => y b ao (x b ao e)
theorem Le.upd {g : GH} {a : Addr} {ao : AO} (h : g a = none) : Le g (upd g a ao) := fun b ao' e => by
  have : b ≠ a := by rintro rfl; rw [h] at e; cases e
  rw [upd_ne this]; exact e
theorem LeB.refl (W : Addr → Prop) (g : GH) : LeB W g g := fun _ _ _ e => e
theorem LeB.trans {W : Addr → Prop} {g g' g'' : GH} (x : LeB W g g') (y : LeB W g' g'') : LeB W g g'' := fun b ao n e => y b ao n (x b ao n e)
theorem Le.leB {W : Addr → Prop} {g g' : GH} (x : Le g g') : LeB W g g' := fun b ao _ e => x b ao e
theorem LeB.mono {W W' : Addr → Prop} {g g' : GH} (x : LeB W g g') (h : ∀ b, W b → W' b) : LeB W' g g' := fun b ao n e => x b ao (fun q => n (h b q)) e
theorem LeB.upd {W : Addr → Prop} {g : GH} {a : Addr} {ao : AO} (h : W a ∨ g a = none) : LeB W g (upd g a ao) := fun b ao' n e => by
  have : b ≠ a := by
    rintro rfl
    rcases h with h | h
    · exact n h
    · rw [h] at e; cases e
  rw [upd_ne this]; exact e

structure Step (c : Cx) (s : Shared) (g : GH) (s' : Shared) (g' : GH) : Prop where
  has : Has c g' s'.heap
  out : ∀ b o, s.heap.get? b = some o → g b = none → s'.heap.get? b = some o ∧ g' b = none
  os : s'.os = s.os
  gens : s'.gens = s.gens

theorem Step.refl {c : Cx} {s : Shared} {g : GH} (h : Has c g s.heap) : Step c s g s g := ⟨h, fun _ _ e n => ⟨e, n⟩, rfl, rfl⟩
theorem Step.trans {c : Cx} {s s' s'' : Shared} {g g' g'' : GH} (x : Step c s g s' g') (y : Step c s' g' s'' g'') : Step c s g s'' g'' :=
  ⟨y.has, fun b o e n => let ⟨e', n'⟩ := x.out b o e n; y.out b o e' n', y.os.trans x.os, y.gens.trans x.gens⟩

noncomputable def BaseOk (c : Cx) (h : Heap) (g : GH) : Prop := ∀ b o, c.B.get? b = some o → h.get? b = some o ∧ g b = none
theorem BaseOk.step {c : Cx} {s s' : Shared} {g g' : GH} (b : BaseOk c s.heap g) (x : Step c s g s' g') : BaseOk c s'.heap g' := fun a o e => x.out a o (b a o e).1 (b a o e).2

/-- what stands outside the ghost and is read there -/
structure Fm where
  p : Heap → GH → Prop
  st : ∀ h g h' g', (∀ b o, h.get? b = some o → g b = none → h'.get? b = some o ∧ g' b = none) → p h g → p h' g'

noncomputable def Fm.triv : Fm := ⟨fun _ _ => True, fun _ _ _ _ _ _ => trivial⟩

noncomputable def TW {α : Type} (c : Cx) (F : Fm) (A : Around) (t : Sem α) (g : GH) (Q : α → GH → Prop) : Prop :=
  ∀ s : Shared, BaseOk c s.heap g → F.p s.heap g → Has c g s.heap → wpAny c.M A t (fun v s' => ∃ g', Step c s g s' g' ∧ Q v g') (fun _ _ => False) s

section
variable {α β : Type} {c : Cx} {F : Fm} {A : Around} {g : GH}

theorem TW.bind {t : Sem α} {k : α → Sem β} {Q : β → GH → Prop} (h : TW c F A t g (fun v g' => TW c F A (k v) g' Q)) : TW c F A (t >>= k) g Q :=
  fun s hb hf hh => wpAny_bind (wpAny_mono (h s hb hf hh) (fun v s' ⟨g', st, hq⟩ =>
    wpAny_mono (hq s' (hb.step st) (F.st _ _ _ _ st.out hf) st.has) (fun _ _ ⟨g'', st', q⟩ => ⟨g'', st.trans st', q⟩) (fun _ _ x => x)) (fun _ _ x => x))
theorem TW.mono {t : Sem α} {Q Q' : α → GH → Prop} (h : TW c F A t g Q) (hq : ∀ v g', Q v g' → Q' v g') : TW c F A t g Q' :=
  fun s hb hf hh => wpAny_mono (h s hb hf hh) (fun v _ ⟨g', st, q⟩ => ⟨g', st, hq v g' q⟩) (fun _ _ x => x)
theorem TW.pure {v : α} {Q : α → GH → Prop} (h : Q v g) : TW c F A (Pure.pure v : Sem α) g Q := fun _ _ _ hh => wpAny_pure ⟨g, Step.refl hh, h⟩
theorem TW.of_eq {t t' : Sem α} {Q : α → GH → Prop} (e : t = t') (h : TW c F A t' g Q) : TW c F A t g Q := e ▸ h
theorem TW.holding {vs : List Value} {t : Sem α} {Q : α → GH → Prop} (h : TW c F A t g Q) : TW c F A (PySem.holding vs t) g Q := fun s hb hf hh => wpAny_holding (h s hb hf hh)
theorem TW.standAt {pos : Pos} {Q : Unit → GH → Prop} (h : Q () g) : TW c F A (PySem.standAt pos) g Q := fun _ _ _ hh => wpAny_standAt ⟨g, Step.refl hh, h⟩
theorem TW.point {Q : Unit → GH → Prop} (h : Q () g) : TW c F A PySem.point g Q := fun _ _ _ hh => wpAny_point ⟨g, Step.refl hh, h⟩
theorem TW.rule {tag : String} {Q : Unit → GH → Prop} (h : Q () g) : TW c F A (PySem.rule tag) g Q := fun _ _ _ hh => wpAny_rule ⟨g, Step.refl hh, h⟩
theorem TW.release {vs keep : List Value} {Q : Unit → GH → Prop} (h : Q () g) : TW c F A (PySem.release vs keep) g Q := fun _ _ _ hh => wpAny_release ⟨g, Step.refl hh, h⟩
theorem TW.operate {vs : List Value} {t : Sem Value} {Q : Value → GH → Prop} (h : TW c F A t g Q) : TW c F A (PySem.operate vs t) g Q := by
  unfold PySem.operate
  exact TW.bind (TW.holding (h.mono fun v g' q => TW.bind (TW.release (TW.pure q))))

/-- a look at the base or at what the ghost says: nothing is turned but tokens -/
theorem TW.quiet {t : Sem α} {Q : α → GH → Prop} (h : ∀ s, BaseOk c s.heap g → F.p s.heap g → Has c g s.heap → wpAny c.M A t (fun v s' => (∃ tk, s' = { s with toks := tk }) ∧ Q v g) (fun _ _ => False) s) : TW c F A t g Q :=
  fun s hb hf hh => wpAny_mono (h s hb hf hh) (fun v s' ⟨⟨tk, e⟩, q⟩ => ⟨g, by subst e; exact ⟨hh, fun _ _ e n => ⟨e, n⟩, rfl, rfl⟩, q⟩) (fun _ _ x => x)
end

section
variable {c : Cx} {s : Shared} {g : GH}
theorem Step.toks (h : Has c g s.heap) (tk : Nat) : Step c s g { s with toks := tk } g := ⟨h, fun _ _ e n => ⟨e, n⟩, rfl, rfl⟩
/-- a store into a, its new make told -/
theorem Step.store (hh : Has c g s.heap) {a : Addr} {ao ao' : AO} {h' : Heap} {tk : Nat} (ha : g a = some ao) (hs : Heap.SameBut a s.heap h') (hr : RepH c h' a ao') :
    Step c s g { s with heap := h', toks := tk } (upd g a ao') := by
  refine ⟨fun b bo e => ?_, fun b o e n => ?_, rfl, rfl⟩
  · by_cases hb : b = a
    · subst hb; rw [upd_self] at e; cases e; exact hr
    · rw [upd_ne hb] at e; exact RepH.keep (hh b bo e) fun o q => (hs.2 b hb).trans q
  · have hb : b ≠ a := by rintro rfl; rw [ha] at n; cases n
    exact ⟨(hs.2 b hb).trans e, (upd_ne hb).trans n⟩
/-- a new object at a, all that stood kept -/
theorem Step.new (hh : Has c g s.heap) {a : Addr} {ao : AO} {h' : Heap} {tk : Nat} (ha : s.heap.get? a = none) (hk : ∀ b o, s.heap.get? b = some o → h'.get? b = some o) (hr : RepH c h' a ao) :
    Step c s g { s with heap := h', toks := tk } (upd g a ao) := by
  refine ⟨fun b bo e => ?_, fun b o e n => ?_, rfl, rfl⟩
  · by_cases hb : b = a
    · subst hb; rw [upd_self] at e; cases e; exact hr
    · rw [upd_ne hb] at e; exact RepH.keep (hh b bo e) fun o q => hk b o q
  · have hb : b ≠ a := by rintro rfl; rw [ha] at e; cases e
    exact ⟨hk b o e, (upd_ne hb).trans n⟩
theorem Step.junk (hh : Has c g s.heap) {h' : Heap} {tk : Nat} (hk : ∀ b o, s.heap.get? b = some o → h'.get? b = some o) : Step c s g { s with heap := h', toks := tk } g :=
  ⟨fun b bo e => RepH.keep (hh b bo e) fun o q => hk b o q, fun b o e n => ⟨hk b o e, n⟩, rfl, rfl⟩
theorem Has.fresh (hh : Has c g s.heap) {a : Addr} (ha : s.heap.get? a = none) : g a = none := by
  cases e : g a with
  | none => rfl
  | some ao => obtain ⟨o, q⟩ := RepH.ex (hh a ao e); rw [ha] at q; cases q
theorem get_size_none (h : Heap) : h.get? h.objs.size = none := by
  cases e : h.get? h.objs.size with
  | none => rfl
  | some o => exact absurd (Heap.lt_size e) (Nat.lt_irrefl _)
theorem get_ge_none {h : Heap} {a : Addr} (ha : h.objs.size ≤ a) : h.get? a = none := by
  cases e : h.get? a with
  | none => rfl
  | some o => exact absurd (Heap.lt_size e) (Nat.not_lt.mpr ha)
end

/-! ## Frames -/
/-- what a frame stands on: its names' dict and its cells -/
noncomputable def Fp (env : Env) (b : Addr) : Prop := b = env.locals ∨ ∃ x, (x, b) ∈ env.cells
/-- what a frame may turn: a comprehension's cells are another's -/
noncomputable def Own (env : Env) (b : Addr) : Prop := b = env.locals ∨ (env.func.isSome = true ∧ ∃ x, (x, b) ∈ env.cells)
theorem Own.fp {env : Env} {b : Addr} (h : Own env b) : Fp env b := h.imp id fun h => h.2
noncomputable abbrev Rho := Str → Option Value
noncomputable def setv (ρ : Rho) (x : Str) (v : Value) : Rho := fun y => if y = x then some v else ρ y

structure EnvOk (c : Cx) (env : Env) : Prop where
  kind : env.scope.kind = .function
  glob : env.globals = mainGlobals
  blt : env.builtins = builtinsNs
  apart : env.cells.Pairwise fun x y => x.2 ≠ y.2
  locs : ∀ x a, (x, a) ∈ env.cells → a ≠ env.locals
  base : ∀ b, Fp env b → c.B.get? b = none
  ckind : ∀ x a, (x, a) ∈ env.cells → env.kindOf x ≠ some .local
  cnod : (env.cells.map (·.1)).Nodup

structure FrameAt (env : Env) (ρ : Rho) (h : Heap) : Prop where
  ns : ∃ m, h.Ns env.locals m ∧ ∀ x v, env.kindOf x = some .local → ρ x = some v → m x = some v
  cells : ∀ x a, env.cells.lookup x = some a → ∃ o, h.IsCell a o ∧ ∀ v, ρ x = some v → o = some v

theorem FrameAt.keep {env : Env} {ρ : Rho} {h h' : Heap} (x : FrameAt env ρ h) (hk : ∀ b o, Fp env b → h.get? b = some o → h'.get? b = some o) : FrameAt env ρ h' := by
  obtain ⟨⟨m, ⟨o, es, ep, ho, r⟩, hm⟩, hc⟩ := x
  refine ⟨⟨m, ⟨o, es, ep, hk _ _ (.inl rfl) ho, r⟩, hm⟩, fun y a e => ?_⟩
  obtain ⟨v, ⟨oc, h1, h2⟩, h3⟩ := hc y a e
  exact ⟨v, ⟨oc, hk _ _ (.inr ⟨y, mem_of_lookup e⟩) h1, h2⟩, h3⟩
theorem FrameAt.weak {env : Env} {ρ ρ' : Rho} {h : Heap} (x : FrameAt env ρ h) (hs : ∀ y v, ρ' y = some v → ρ y = some v) : FrameAt env ρ' h :=
  ⟨let ⟨m, a, b⟩ := x.ns; ⟨m, a, fun y v k e => b y v k (hs y v e)⟩, fun y a e => let ⟨o, h1, h2⟩ := x.cells y a e; ⟨o, h1, fun v q => h2 v (hs y v q)⟩⟩

noncomputable def Fm.fr (env : Env) (ρ : Rho) : Fm where
  p h g := FrameAt env ρ h ∧ ∀ b, Fp env b → g b = none ∧ ∃ o, h.get? b = some o
  st h g h' g' k := fun ⟨x, y⟩ => ⟨x.keep fun b o ob e => (k b o e (y b ob).1).1, fun b ob => let ⟨o, e⟩ := (y b ob).2; ⟨(k b o e (y b ob).1).2, o, (k b o e (y b ob).1).1⟩⟩

structure StepO (c : Cx) (env : Env) (s : Shared) (g : GH) (s' : Shared) (g' : GH) : Prop where
  has : Has c g' s'.heap
  out : ∀ b o, s.heap.get? b = some o → g b = none → ¬ Own env b → s'.heap.get? b = some o ∧ g' b = none
  os : s'.os = s.os
  gens : s'.gens = s.gens
theorem Step.o {c : Cx} {env : Env} {s s' : Shared} {g g' : GH} (x : Step c s g s' g') : StepO c env s g s' g' := ⟨x.has, fun b o e n _ => x.out b o e n, x.os, x.gens⟩
theorem StepO.trans {c : Cx} {env : Env} {s s' s'' : Shared} {g g' g'' : GH} (x : StepO c env s g s' g') (y : StepO c env s' g' s'' g'') : StepO c env s g s'' g'' :=
  ⟨y.has, fun b o e n h => let ⟨e', n'⟩ := x.out b o e n h; y.out b o e' n' h, y.os.trans x.os, y.gens.trans x.gens⟩

/-- a statement's judgement: the frame's names may turn -/
noncomputable def BW {α : Type} (c : Cx) (env : Env) (A : Around) (t : Sem α) (ρ : Rho) (g : GH) (Q : α → Rho → GH → Prop) : Prop :=
  ∀ s : Shared, BaseOk c s.heap g → (Fm.fr env ρ).p s.heap g → Has c g s.heap →
    wpAny c.M A t (fun v s' => ∃ ρ' g', (Fm.fr env ρ').p s'.heap g' ∧ StepO c env s g s' g' ∧ Q v ρ' g') (fun _ _ => False) s

section
variable {α β : Type} {c : Cx} {env : Env} {A : Around} {ρ : Rho} {g : GH}

theorem BaseOk.stepO {s s' : Shared} {g' : GH} (he : EnvOk c env) (b : BaseOk c s.heap g) (x : StepO c env s g s' g') : BaseOk c s'.heap g' := fun a o e =>
  x.out a o (b a o e).1 (b a o e).2 fun q => by have := he.base a q.fp; rw [this] at e; cases e
theorem BW.of_tw {t : Sem α} {Q : α → Rho → GH → Prop} (h : TW c (Fm.fr env ρ) A t g (fun v g' => Q v ρ g')) : BW c env A t ρ g Q :=
  fun s hb hf hh => wpAny_mono (h s hb hf hh) (fun v s' ⟨g', st, q⟩ => ⟨ρ, g', (Fm.fr env ρ).st _ _ _ _ st.out hf, st.o, q⟩) (fun _ _ x => x)
theorem BW.mono {t : Sem α} {Q Q' : α → Rho → GH → Prop} (h : BW c env A t ρ g Q) (hq : ∀ v ρ' g', Q v ρ' g' → Q' v ρ' g') : BW c env A t ρ g Q' :=
  fun s hb hf hh => wpAny_mono (h s hb hf hh) (fun v _ ⟨ρ', g', a, b, q⟩ => ⟨ρ', g', a, b, hq v ρ' g' q⟩) (fun _ _ x => x)
theorem BW.bind {t : Sem α} {k : α → Sem β} {Q : β → Rho → GH → Prop} (he : EnvOk c env) (h : BW c env A t ρ g (fun v ρ' g' => BW c env A (k v) ρ' g' Q)) : BW c env A (t >>= k) ρ g Q :=
  fun s hb hf hh => wpAny_bind (wpAny_mono (h s hb hf hh) (fun _ s' ⟨ρ', g', hf', st, hq⟩ =>
    wpAny_mono (hq s' (hb.stepO he st) hf' st.has) (fun _ _ ⟨ρ'', g'', a, st', q⟩ => ⟨ρ'', g'', a, st.trans st', q⟩) (fun _ _ x => x)) (fun _ _ x => x))
theorem BW.bindT {t : Sem α} {k : α → Sem β} {Q : β → Rho → GH → Prop} (he : EnvOk c env) (h : TW c (Fm.fr env ρ) A t g (fun v g' => BW c env A (k v) ρ g' Q)) : BW c env A (t >>= k) ρ g Q :=
  BW.bind he (BW.of_tw h)
theorem BW.pure {v : α} {Q : α → Rho → GH → Prop} (h : Q v ρ g) : BW c env A (Pure.pure v : Sem α) ρ g Q := BW.of_tw (TW.pure h)
theorem BW.standAt {pos : Pos} {Q : Unit → Rho → GH → Prop} (h : Q () ρ g) : BW c env A (PySem.standAt pos) ρ g Q := BW.of_tw (TW.standAt h)
theorem BW.holding {vs : List Value} {t : Sem α} {Q : α → Rho → GH → Prop} (h : BW c env A t ρ g Q) : BW c env A (PySem.holding vs t) ρ g Q := fun s hb hf hh => wpAny_holding (h s hb hf hh)
theorem BW.of_eq {t t' : Sem α} {Q : α → Rho → GH → Prop} (e : t = t') (h : BW c env A t' ρ g Q) : BW c env A t ρ g Q := e ▸ h
end
end
-- part G2
section
/-! ## Expressions -/
section
variable {c : Cx} {F : Fm} {A : Around} {g : GH} {env : Env} {ρ : Rho} {Q : Value → GH → Prop}

theorem TW.of_wp {α : Type} {t : Sem α} {Q : α → GH → Prop} (h : ∀ s : Shared, BaseOk c s.heap g → F.p s.heap g → Has c g s.heap → wpAny c.M A t (fun v s' => ∃ g', Step c s g s' g' ∧ Q v g') (fun _ _ => False) s) : TW c F A t g Q := h


theorem e_int {i : Int} {k : Nat} {pos : Pos} (h : ∀ t, Q (.int i t) g) : TW c F A (eval (.Constant (.int i) k pos) env) g Q :=
  fun s hb hf hh => wpAny_Constant_int ⟨g, Step.toks hh _, h _⟩
theorem e_str {x : Str} {k : Nat} {pos : Pos} (h : ∀ t, Q (.str x t) g) : TW c F A (eval (.Constant (.str x) k pos) env) g Q :=
  fun s hb hf hh => wpAny_Constant_str ⟨g, Step.toks hh _, h _⟩
theorem e_none {k : Nat} {pos : Pos} (h : Q .none g) : TW c F A (eval (.Constant .none k pos) env) g Q :=
  fun s hb hf hh => wpAny_Constant_none ⟨g, Step.refl hh, h⟩
theorem e_bool {b : Bool} {k : Nat} {pos : Pos} (h : Q (.bool b) g) : TW c F A (eval (.Constant (.bool b) k pos) env) g Q :=
  fun s hb hf hh => wpAny_Constant_bool ⟨g, Step.refl hh, h⟩

theorem e_local {x : Str} {pos : Pos} {v : Value} (he : EnvOk c env) (hl : env.kindOf x = some .local) (hv : ρ x = some v) (h : Q v g) (hd : (x == ("__debug__" : Str)) = false := by decide) :
    TW c (Fm.fr env ρ) A (eval (.Name x pos) env) g Q := fun s hb hf hh => by
  obtain ⟨⟨m, hn, hm⟩, _⟩ := hf.1
  exact wpAny_Name (wpAny_loadName_local he.kind hl hn (hm x v hl hv) ⟨g, Step.refl hh, h⟩) hd
theorem e_cell {x : Str} {pos : Pos} {v : Value} {a : Addr} (he : EnvOk c env) (hl : env.kindOf x = some .cell) (ha : env.cells.lookup x = some a) (hv : ρ x = some v) (h : Q v g) (hd : (x == ("__debug__" : Str)) = false := by decide) :
    TW c (Fm.fr env ρ) A (eval (.Name x pos) env) g Q := fun s hb hf hh => by
  obtain ⟨o, this, ho⟩ := hf.1.cells x a ha
  rw [ho v hv] at this
  exact wpAny_Name (wpAny_loadName_cell he.kind hl ha this ⟨g, Step.refl hh, h⟩) hd
theorem e_free {x : Str} {pos : Pos} {v : Value} {a : Addr} (he : EnvOk c env) (hl : env.kindOf x = some .free) (ha : env.cells.lookup x = some a) (hv : ρ x = some v) (h : Q v g) (hd : (x == ("__debug__" : Str)) = false := by decide) (hn : (x == ("__classdict__" : Str)) = false := by decide) :
    TW c (Fm.fr env ρ) A (eval (.Name x pos) env) g Q := fun s hb hf hh => by
  obtain ⟨o, this, ho⟩ := hf.1.cells x a ha
  rw [ho v hv] at this
  exact wpAny_Name (wpAny_loadName_free he.kind hl ha this ⟨g, Step.refl hh, h⟩ hn) hd
theorem e_global {x : Str} {pos : Pos} {v : Value} (hc : c.Ok) (he : EnvOk c env) (hl : env.kindOf x = some .globalImplicit) (hv : c.mg x = some v) (h : Q v g) (hd : (x == ("__debug__" : Str)) = false := by decide) :
    TW c F A (eval (.Name x pos) env) g Q := fun s hb hf hh =>
  Calls.Name_function_global he.kind hl (Calls.loadGlobal_global (mg := c.mg) (by rw [he.glob]; exact hc.g.keeps fun b o e => (hb b o e).1) hv ⟨g, Step.refl hh, h⟩) hd
theorem e_builtin {x : Str} {pos : Pos} {v : Value} (hc : c.Ok) (he : EnvOk c env) (hl : env.kindOf x = some .globalImplicit) (hm : c.mg x = none) (hv : bootBuiltins x = some v) (h : Q v g) (hn : x ≠ ("__name__" : Str) := by decide) (hd : (x == ("__debug__" : Str)) = false := by decide) :
    TW c F A (eval (.Name x pos) env) g Q := fun s hb hf hh =>
  Calls.Name_function_global he.kind hl (Calls.loadGlobal_builtin (mg := c.mg) (mb := c.mb) (by rw [he.glob]; exact hc.g.keeps fun b o e => (hb b o e).1) hm
    (by rw [he.blt]; exact hc.b.keeps fun b o e => (hb b o e).1) ((hc.blt x hn).trans hv) ⟨g, Step.refl hh, h⟩) hd

theorem e_BinOp {l r : Expr} {op : Operator} {pos : Pos} (h : TW c F A (eval l env) g (fun a g₁ => TW c F A (eval r env) g₁ (fun b g₂ => TW c F A (binaryOp op a b) g₂ Q))) :
    TW c F A (eval (.BinOp l op r pos) env) g Q :=
  TW.of_eq (eval_BinOp env l op r pos) (TW.bind (h.mono fun a g₁ h₁ => TW.bind (TW.holding (h₁.mono fun b g₂ h₂ => TW.bind (TW.standAt (TW.operate h₂))))))
theorem e_Compare {l r : Expr} {op : CmpOp} {pos : Pos} (h : TW c F A (eval l env) g (fun a g₁ => TW c F A (eval r env) g₁ (fun b g₂ => TW c F A (compareOp op a b) g₂ Q)))
    (hm : behindInMarks op r = false := by with_unfolding_all rfl) : TW c F A (eval (.Compare l [op] [r] pos) env) g Q :=
  TW.of_eq (eval_Compare1 env l op r pos) (TW.bind (h.mono fun a g₁ h₁ => TW.bind (TW.holding (TW.of_eq (markedBehindIn_of_false hm) (h₁.mono fun b g₂ h₂ => TW.bind (TW.standAt (TW.operate h₂)))))))
theorem e_UnaryOp {op : UnaryOp} {x : Expr} {pos : Pos} (h : TW c F A (eval x env) g (fun v g₁ => TW c F A (unaryOp op v) g₁ Q)) : TW c F A (eval (.UnaryOp op x pos) env) g Q := by
  show TW c F A (do let v ← eval x env; PySem.standAt pos; PySem.holding [v] (unaryOp op v)) g Q
  exact TW.bind (h.mono fun v g₁ h₁ => TW.bind (TW.standAt (TW.holding h₁)))
theorem e_IfExp {t b o : Expr} {pos : Pos} (h : TW c F A (isTrue t env (eval t env)) g (fun z g₁ => if z then TW c F A (eval b env) g₁ Q else TW c F A (eval o env) g₁ Q)) : TW c F A (eval (.IfExp t b o pos) env) g Q := by
  show TW c F A (do if ← isTrue t env (eval t env) then eval b env else eval o env) g Q
  refine TW.bind (h.mono fun z g₁ h₁ => ?_)
  cases z <;> exact h₁
theorem e_And {x y : Expr} {pos : Pos} (h : TW c F A (eval x env) g (fun v g₁ => TW c F A (truthy v) g₁ (fun t g₂ => if t then TW c F A (eval y env) g₂ Q else Q v g₂))) : TW c F A (eval (.BoolOp .And [x, y] pos) env) g Q := by
  show TW c F A (do let v ← eval x env; PySem.standAt pos; let t ← PySem.holding [v] (truthy v); match BoolOp.And, t with | .And, false | .Or, true => Pure.pure v | _, _ => boolOp pos .And [eval y env]) g Q
  refine TW.bind (h.mono fun v g₁ h₁ => TW.bind (TW.standAt (TW.bind (TW.holding (h₁.mono fun t g₂ h₂ => ?_)))))
  cases t <;> first | exact TW.pure h₂ | exact h₂

/-! tests -/
variable {T : Bool → GH → Prop}
theorem t_Compare {l r : Expr} {op : CmpOp} {pos : Pos} {w : Sem Value} (h : TW c F A (eval l env) g (fun a g₁ => TW c F A (eval r env) g₁ (fun b g₂ => TW c F A (compareOp op a b) g₂ (fun v g₃ => TW c F A (truthy v) g₃ T))))
    (hm : behindInMarks op r = false := by with_unfolding_all rfl) : TW c F A (isTrue (.Compare l [op] [r] pos) env w) g T :=
  TW.of_eq (isTrue_Compare1 env l op r pos w) (TW.bind (h.mono fun a g₁ h₁ => TW.bind (TW.holding (TW.of_eq (markedBehindIn_of_false hm) (h₁.mono fun b g₂ h₂ => TW.bind (TW.standAt (TW.bind (TW.operate (h₂.mono fun v g₃ h₃ => TW.holding h₃)))))))))
theorem t_Compare2 {l r r' : Expr} {op op' : CmpOp} {pos : Pos} {w : Sem Value} (h : TW c F A (eval l env) g (fun a g₁ => TW c F A (eval r env) g₁ (fun b g₂ => TW c F A (compareOp op a b) g₂ (fun v g₃ => TW c F A (truthy v) g₃
      (fun z g₄ => if z then TW c F A (eval r' env) g₄ (fun d g₅ => TW c F A (compareOp op' b d) g₅ (fun v' g₆ => TW c F A (truthy v') g₆ T)) else T false g₄)))))
    (hm' : behindInMarks op' r' = false := by with_unfolding_all rfl) : TW c F A (isTrue (.Compare l [op, op'] [r, r'] pos) env w) g T := by
  show TW c F A (do testChain pos (← eval l env) [op, op'] [eval r env, markedBehindIn op' r' (eval r' env)]) g T
  rw [markedBehindIn_of_false hm']
  refine TW.bind (h.mono fun a g₁ h₁ => ?_)
  show TW c F A (do
    let rv ← PySem.holding [a] (eval r env)
    PySem.standAt pos
    let x ← PySem.holding [a, rv] (compareOp op a rv)
    PySem.release [a, rv] [x]
    if ← PySem.holding [x, rv] (truthy x) then testChain pos rv [op'] [eval r' env] else Pure.pure false) g₁ T
  refine TW.bind (TW.holding (h₁.mono fun b g₂ h₂ => TW.bind (TW.standAt (TW.bind (TW.holding (h₂.mono fun v g₃ h₃ => TW.bind (TW.release (TW.bind (TW.holding (h₃.mono fun z g₄ h₄ => ?_))))))))))
  cases z with
  | false => exact TW.pure h₄
  | true =>
    show TW c F A (do
      let rv ← PySem.holding [b] (eval r' env)
      PySem.standAt pos
      let x ← PySem.operate [b, rv] (compareOp op' b rv)
      PySem.holding [x] (truthy x)) g₄ T
    exact TW.bind (TW.holding (TW.mono h₄ fun d g₅ h₅ => TW.bind (TW.standAt (TW.bind (TW.operate (h₅.mono fun v' g₆ h₆ => TW.holding h₆))))))
theorem t_Not {x : Expr} {pos : Pos} {w : Sem Value} (h : TW c F A (isTrue x env (eval x env)) g (fun b g₁ => T (!b) g₁)) : TW c F A (isTrue (.UnaryOp .Not x pos) env w) g T := by
  show TW c F A (do return !(← isTrue x env (eval x env))) g T
  exact TW.bind (h.mono fun b g₁ h₁ => TW.pure h₁)
theorem t_BoolOp {op : BoolOp} {vs : List Expr} {pos : Pos} {w : Sem Value} (h : TW c F A (allTrue op vs env) g T) : TW c F A (isTrue (.BoolOp op vs pos) env w) g T := h
theorem t_all_nil (h : T true g) : TW c F A (allTrue .And [] env) g T := by
  show TW c F A (Pure.pure (BoolOp.And == BoolOp.And)) g T; exact TW.pure h
theorem t_any_nil (h : T false g) : TW c F A (allTrue .Or [] env) g T := by
  show TW c F A (Pure.pure (BoolOp.Or == BoolOp.And)) g T; exact TW.pure h
theorem t_all_cons {x : Expr} {r : List Expr} (h : TW c F A (isTrue x env (eval x env)) g (fun b g₁ => if b then TW c F A (allTrue .And r env) g₁ T else T false g₁)) : TW c F A (allTrue .And (x :: r) env) g T := by
  rw [show allTrue .And (x :: r) env = (do match BoolOp.And, ← isTrue x env (eval x env) with | .And, false => Pure.pure false | .Or, true => Pure.pure true | _, _ => allTrue .And r env) from rfl]
  refine TW.bind (h.mono fun b g₁ h₁ => ?_)
  cases b <;> first | exact TW.pure h₁ | exact h₁
theorem t_any_cons {x : Expr} {r : List Expr} (h : TW c F A (isTrue x env (eval x env)) g (fun b g₁ => if b then T true g₁ else TW c F A (allTrue .Or r env) g₁ T)) : TW c F A (allTrue .Or (x :: r) env) g T := by
  rw [show allTrue .Or (x :: r) env = (do match BoolOp.Or, ← isTrue x env (eval x env) with | .And, false => Pure.pure false | .Or, true => Pure.pure true | _, _ => allTrue .Or r env) from rfl]
  refine TW.bind (h.mono fun b g₁ h₁ => ?_)
  cases b <;> first | exact TW.pure h₁ | exact h₁
/-- a test that is a plain value -/
theorem t_value {e : Expr} (h : TW c F A (eval e env) g (fun v g₁ => TW c F A (truthy v) g₁ T))
    (he : ∀ w : Sem Value, isTrue e env w = (do let v ← w; PySem.standAt e.pos; PySem.holding [v] (truthy v)) := by intro _; rfl) : TW c F A (isTrue e env (eval e env)) g T := by
  rw [he]
  exact TW.bind (h.mono fun v g₁ h₁ => TW.bind (TW.standAt (TW.holding h₁)))
theorem t_true {b : Bool} (h : T b g) : TW c F A (truthy (.bool b)) g T := fun s hb hf hh => wpAny_truthy_bool ⟨g, Step.refl hh, h⟩
end
end
-- part G3
section
/-! ## Operations -/
noncomputable def Room (n : Nat) (A : Around) : Prop := A.depth + n < recursionLimit ∧ A.units + 16 * n < cLine ∧ A.handled = none

section
variable {c : Cx} {F : Fm} {A : Around} {g : GH} {Q : Value → GH → Prop} {U : Unit → GH → Prop} {a b : Int} {t u : Tok}

theorem o_add (h : ∀ t, Q (.int (a + b) t) g) : TW c F A (binaryOp .Add (.int a t) (.int b u)) g Q := fun s hb hf hh => PyProof.Rows.add_int ⟨g, Step.toks hh _, h _⟩
theorem o_sub (h : ∀ t, Q (.int (a - b) t) g) : TW c F A (binaryOp .Sub (.int a t) (.int b u)) g Q := fun s hb hf hh => PyProof.Rows.sub_int ⟨g, Step.toks hh _, h _⟩
theorem o_mul (h : ∀ t, Q (.int (a * b) t) g) (hm : IntMulOk a b) : TW c F A (binaryOp .Mult (.int a t) (.int b u)) g Q := fun s hb hf hh => PyProof.Rows.mul_int ⟨g, Step.toks hh _, h _⟩ hm
theorem o_mod (hz : b ≠ 0) (h : ∀ t, Q (.int (a.fmod b) t) g) : TW c F A (binaryOp .Mod (.int a t) (.int b u)) g Q := fun s hb hf hh => PyProof.Rows.mod_int hz ⟨g, Step.toks hh _, h _⟩
theorem o_div (hz : b ≠ 0) (h : ∀ t, Q (.int (a.fdiv b) t) g) (hs : b.natAbs < 1073741824 := by decide) : TW c F A (binaryOp .FloorDiv (.int a t) (.int b u)) g Q := fun s hb hf hh =>
  PyProof.Rows.floordiv_int hz ⟨g, Step.toks hh _, h _⟩ (.inl (PyProof.noPylong_small hs))
theorem o_neg (h : ∀ t, Q (.int (-a) t) g) : TW c F A (unaryOp .USub (.int a t)) g Q := fun s hb hf hh => PyProof.Rows.neg_int ⟨g, Step.toks hh _, h _⟩
theorem o_eq (h : Q (.bool (a == b)) g) : TW c F A (compareOp .Eq (.int a t) (.int b u)) g Q := fun s hb hf hh => PyProof.Rows.eq_int ⟨g, Step.refl hh, h⟩
theorem o_ne (h : Q (.bool (a != b)) g) : TW c F A (compareOp .NotEq (.int a t) (.int b u)) g Q := fun s hb hf hh => PyProof.Rows.ne_int ⟨g, Step.refl hh, h⟩
theorem o_lt (h : Q (.bool (decide (a < b))) g) : TW c F A (compareOp .Lt (.int a t) (.int b u)) g Q := fun s hb hf hh => PyProof.Rows.lt_int ⟨g, Step.refl hh, h⟩
theorem o_gt (h : Q (.bool (decide (b < a))) g) : TW c F A (compareOp .Gt (.int a t) (.int b u)) g Q := fun s hb hf hh => PyProof.Rows.gt_int ⟨g, Step.refl hh, h⟩
theorem o_le (h : Q (.bool (decide (a ≤ b))) g) : TW c F A (compareOp .LtE (.int a t) (.int b u)) g Q := fun s hb hf hh => PyProof.Rows.le_int ⟨g, Step.refl hh, h⟩
theorem o_ge (h : Q (.bool (decide (b ≤ a))) g) : TW c F A (compareOp .GtE (.int a t) (.int b u)) g Q := fun s hb hf hh => PyProof.Rows.ge_int ⟨g, Step.refl hh, h⟩

/-- a list that stands in the ghost or in the base -/
noncomputable def LIn (c : Cx) (g : GH) (l : Addr) (vs : List Value) : Prop := ∀ h, BaseOk c h g → Has c g h → h.IsList l vs.toArray
theorem LIn.of {l : Addr} {vs : List Value} (h : g l = some (.lst vs)) : LIn c g l vs := fun _ _ hh => RepH.isList (hh l _ h)
theorem LIn.base {l : Addr} {vs : List Value} (h : c.B.IsList l vs.toArray) : LIn c g l vs := fun _ hb _ => let ⟨o, e, r⟩ := h; ⟨o, (hb _ _ e).1, r⟩

theorem o_len {l : Addr} {vs : List Value} (hl : LIn c g l vs) (hz : vs.length < 2 ^ 63) (h : ∀ t, Q (.int vs.length t) g) : TW c F A (call (.builtin "len") [.ref l]) g Q := fun s hb hf hh =>
  PyProof.Rows.len_list (hl _ hb hh) (by simpa using (by lia : (vs.length : Int) < 2 ^ 63)) ⟨g, Step.toks hh _, by simpa using h _⟩
theorem o_getL {l : Addr} {vs : List Value} {k : Int} {v : Value} (hl : LIn c g l vs) (h0 : 0 ≤ k) (hk : k < 2 ^ 63) (hv : vs[k.toNat]? = some v) (h : Q v g) : TW c F A (getItem (.ref l) (.int k t)) g Q := fun s hb hf hh =>
  wpAny_getItem_list (hl _ hb hh) h0 hk (by simpa using hv) ⟨g, Step.refl hh, h⟩
theorem o_getT {l : Addr} {vs : List Value} {k : Int} {v : Value} (hl : g l = some (.tup vs)) (h0 : 0 ≤ k) (hk : k < 2 ^ 63) (hv : vs[k.toNat]? = some v) (h : Q v g) : TW c F A (getItem (.ref l) (.int k t)) g Q := fun s hb hf hh =>
  PyProof.Rows.getItem_tuple (RepH.isTup (hh l _ hl)) (by lia) hk (j := k.toNat) (by
    obtain ⟨j, rfl⟩ := Int.eq_ofNat_of_zero_le h0
    have hj : j < vs.length := by
      have := (List.getElem?_eq_some_iff.mp hv).1; simpa using this
    simp only [seqIndex?, List.size_toArray]
    simp
    lia) (by simpa using hv) ⟨g, Step.refl hh, h⟩

theorem plain_seq {h : Heap} {l : Addr} {n : Nat} {vs ws : List Value} {f : Array Value → Array Value} (e : h.get? l = some { cls := .type "list", data := .seq vs.toArray n }) (hf : f vs.toArray = ws.toArray) :
    ∃ m, (h.update l (Obj.mapSeq f)).get? l = some { cls := .type "list", data := .seq ws.toArray m } :=
  ⟨if (f vs.toArray).size == vs.toArray.size then n else n + 1, by
    rw [Heap.get?_update_self _ e (by rfl)]
    simp only [Obj.mapSeq, hf]⟩

theorem o_append {l : Addr} {vs : List Value} {x : Value} (hl : g l = some (.lst vs)) (hz : vs.length ≤ sizeLine) (h : Q .none (upd g l (.lst (vs ++ [x])))) :
    TW c F A (call (.builtin "list.append") [.ref l, x]) g Q := fun s hb hf hh => by
  obtain ⟨n, e⟩ := hh l _ hl
  refine call_meets slot_list_append ⟨_, e, rfl⟩ entry_list_append (args_list_append _ _) (list_append l vs.toArray n x (by simpa using hz)) ⟨e, ?_⟩
  obtain ⟨m, e'⟩ := plain_seq (f := fun y => y.push x) (ws := vs ++ [x]) e (by simp)
  exact ⟨_, Step.store (ao' := .lst _) (tk := s.toks) hh hl (Heap.SameBut.update ..) ⟨m, e'⟩, h⟩
theorem o_pop {l : Addr} {vs : List Value} {x : Value} (hl : g l = some (.lst (vs ++ [x]))) (hz : vs.length < sizeLine) (h : Q x (upd g l (.lst vs))) :
    TW c F A (call (.builtin "list.pop") [.ref l]) g Q := fun s hb hf hh => by
  obtain ⟨n, e⟩ := hh l _ hl
  refine call_meets PySem.F.slot_list_pop ⟨_, e, rfl⟩ PySem.F.entry_list_pop (PySem.F.args_list_pop_1 _) (MeetsSeq.list_pop_last l (vs ++ [x]).toArray n x (by simp) (by simp; lia)) ⟨e, ?_⟩
  obtain ⟨m, e'⟩ := plain_seq (f := fun y => y.eraseIdxIfInBounds ((vs ++ [x]).toArray.size - 1)) (ws := vs) e (by simp [List.eraseIdx_append_of_length_le])
  exact ⟨_, Step.store (ao' := .lst _) (tk := s.toks) hh hl (Heap.SameBut.update ..) ⟨m, e'⟩, h⟩
theorem o_extend {l l2 : Addr} {vs ws : List Value} (hl : g l = some (.lst vs)) (hl2 : g l2 = some (.lst ws)) (hz : vs.length + ws.length ≤ sizeLine) (h : Q .none (upd g l (.lst (vs ++ ws)))) :
    TW c F A (call (.builtin "list.extend") [.ref l, .ref l2]) g Q := fun s hb hf hh => by
  obtain ⟨n, e⟩ := hh l _ hl
  obtain ⟨n2, e2⟩ := hh l2 _ hl2
  have hz' : vs.toArray.size + ws.toArray.size ≤ sizeLine := by simpa using hz
  refine call_meets PySem.F.slot_list_extend ⟨_, e, rfl⟩ PySem.F.entry_list_extend (PySem.F.args_list_extend_2 _ _) (AutoSeq1.list_extend_list_list_0 l vs.toArray n l2 ws.toArray n2 ?_ (by lia) (by lia)) ⟨e, e2, ?_⟩
  · have : Builtin.List.listTooLong (vs.toArray.size + ws.toArray.size) = false := by
      unfold Builtin.List.listTooLong
      rw [sizeLine_eq] at hz'
      simp
      lia
    rw [this]; simp
  · obtain ⟨m, e'⟩ := plain_seq (f := fun y => y ++ ws.toArray) (ws := vs ++ ws) e (by simp)
    exact ⟨_, Step.store (ao' := .lst _) (tk := s.toks) hh hl (Heap.SameBut.update ..) ⟨m, e'⟩, h⟩

theorem o_setL {l : Addr} {vs : List Value} {k : Int} {v : Value} (hl : g l = some (.lst vs)) (h0 : 0 ≤ k) (hk : k < 2 ^ 63) (hn : k < vs.length) (h : U () (upd g l (.lst (vs.set k.toNat v)))) :
    TW c F A (setItem (.ref l) (.int k t) v) g U := fun s hb hf hh => by
  obtain ⟨n, e⟩ := hh l _ hl
  have hT : s.TypeIs (.ref l) "list" := ⟨_, e, rfl⟩
  unfold setItem
  refine wpAny_holding (wpAny_bind (wpAny_sequenceKey hT (by decide) (wpAny_bind (wpAny_callSpecial?_slot (name := Str.ofString "__setitem__") hT slot_list_setitem
    (wpAny_call_entry slot_list_setitem hT entry_list_setitem ?_ (args_list_setitem _ _ _))))))
  show wpAny _ _ (Builtin.List.listSubscript? (.int k t) >>= _) _ _ s
  refine wpAny_bind (wpAny_listSubscript_int (fitsIndex_of h0 hk) ?_)
  clear hk
  obtain ⟨j, rfl⟩ := Int.eq_ofNat_of_zero_le h0
  have hj : j < vs.toArray.size := by simpa using (by lia : j < vs.length)
  obtain ⟨m, e'⟩ := plain_seq (f := fun y => y.setIfInBounds j v) (ws := vs.set j v) e (by simp)
  have hx : vs.toArray[j]? = some vs.toArray[j] := Array.getElem?_eq_getElem hj
  show wpAny _ _ ((seqItemAt l j >>= fun r => Pure.pure (r.map (j, ·))) >>= _) _ _ s
  refine wpAny_bind (wpAny_bind (wpAny_seqItemAt e rfl (wpAny_pure ?_)))
  rw [hx]
  show wpAny _ _ (setSeqItemAt l j v >>= _) _ _ s
  refine wpAny_bind (wpAny_setSeqItemAt e rfl ?_)
  have fin : ∃ g', Step c s g { s with heap := s.heap.update l (Obj.mapSeq fun y => y.setIfInBounds j v) } g' ∧ U () g' :=
    ⟨_, Step.store (ao' := .lst _) (tk := s.toks) hh hl (Heap.SameBut.update ..) ⟨m, e'⟩, h⟩
  first
    | exact wpAny_bind (wpAny_pure (wpAny_pure ⟨.none, rfl, wpAny_pure fin⟩))
    | exact wpAny_pure ⟨.none, rfl, wpAny_pure fin⟩

/-! new objects -/
theorem o_newList {vs : List Value} (hz : vs.length ≤ sizeLine) (h : ∀ a, g a = none → Q (.ref a) (upd g a (.lst vs))) : TW c F A (newList vs) g Q := fun s hb hf hh =>
  wpAny_newList ⟨_, Step.new (ao := .lst vs) (tk := s.toks) hh (get_size_none _) (fun _ _ e => Heap.get?_push_of_some _ e) ⟨0, Heap.get?_push_size _ rfl⟩, h _ (Has.fresh hh (get_size_none _))⟩ hz
theorem o_newTuple {vs : List Value} (hz : vs.length ≤ sizeLine) (h : ∀ a, g a = none → Q (.ref a) (upd g a (.tup vs))) : TW c F A (newTuple vs) g Q := fun s hb hf hh =>
  wpAny_newTuple ⟨_, Step.new (ao := .tup vs) (tk := s.toks) hh (get_size_none _) (fun _ _ e => Heap.get?_push_of_some _ e) (Heap.get?_push_size _ rfl), h _ (Has.fresh hh (get_size_none _))⟩ hz
theorem o_listOf {l : Addr} {vs : List Value} (hl : LIn c g l vs) (hz : vs.length ≤ sizeLine) (h : ∀ a, g a = none → Q (.ref a) (upd g a (.lst vs))) : TW c F A (call (.type "list") [.ref l]) g Q := fun s hb hf hh => by
  obtain ⟨o, ho, hc, n, hd⟩ := hl _ hb hh
  exact call_list_seq l (.inl rfl) ho hc hd (fun h' c' hk hD => ⟨_, Step.new (ao := .lst vs) (tk := s.toks) hh (get_size_none _) hk ⟨c', hD⟩, h _ (Has.fresh hh (get_size_none _))⟩) (by simpa using hz)
theorem o_sorted {l : Addr} {vs : List Value} {ns : List Int} (hl : LIn c g l vs) (hI : IntsAre vs ns) (h64 : vs.length < 64)
    (h : ∀ a vs' ns', g a = none → IntsAre vs' ns' → ns'.Perm ns → ns'.Pairwise (· ≤ ·) → Q (.ref a) (upd g a (.lst vs'))) : TW c F A (call (.builtin "sorted") [.ref l]) g Q := fun s hb hf hh =>
  sorted_ints (hl _ hb hh) hI h64 fun out ns' a1 a2 a3 => by
    obtain ⟨e, he⟩ := sortedAll_at s.heap vs out
    exact ⟨_, Step.new (ao := .lst out.toList) (tk := s.toks) hh (get_ge_none (Nat.le_succ _)) (fun _ _ q => sortedAll_old q) ⟨e, by simpa using he⟩, h _ _ ns' (Has.fresh hh (get_ge_none (Nat.le_succ _))) a1 a2 a3⟩
theorem o_max (hA : A.handled = none) (h : ∀ t, Q (.int (if b > a then b else a) t) g) : TW c F A (call (.builtin "max") [.int a t, .int b u]) g Q := fun s hb hf hh =>
  max_two_ints hA fun h' tk hk => ⟨g, Step.junk hh hk, by split <;> (rename_i q; first | simpa [q] using h _)⟩
theorem o_int (h : Q (.int a t) g) : TW c F A (call (.type "int") [.int a t]) g Q := fun s hb hf hh => by
  first | exact call_int_int ⟨g, Step.refl hh, h⟩ | exact PySem.F.call_int_int ⟨g, Step.refl hh, h⟩ | exact PyProof.Rows.call_int_int ⟨g, Step.refl hh, h⟩
theorem o_addL {l l2 : Addr} {vs ws : List Value} (hl : g l = some (.lst vs)) (hl2 : g l2 = some (.lst ws)) (hz : vs.length + ws.length ≤ sizeLine) (h : ∀ a, g a = none → Q (.ref a) (upd g a (.lst (vs ++ ws)))) :
    TW c F A (binaryOp .Add (.ref l) (.ref l2)) g Q := fun s hb hf hh => by
  obtain ⟨n, e⟩ := hh l _ hl
  obtain ⟨n2, e2⟩ := hh l2 _ hl2
  refine concat_meets ⟨_, e, rfl⟩ ⟨_, e2, rfl⟩ noFill_list_add seq_list_add PySem.F.slot_list_add PySem.F.entry_list_add (PySem.F.args_list_add_2 _ _)
    (AutoSeq1.list___add___list_list_0 l vs.toArray n l2 ws.toArray n2 (by simpa using hz)) ⟨e, e2, ?_⟩
  exact ⟨_, Step.new (ao := .lst (vs ++ ws)) (tk := s.toks) hh (get_size_none _) (fun _ _ q => Heap.get?_push_of_some _ q) ⟨0, by rw [Heap.get?_push_size _ rfl]; simp⟩, h _ (Has.fresh hh (get_size_none _))⟩
theorem rep_flat (vs : List Value) (k : Nat) : (List.foldl (fun x1 x2 => x1 ++ x2) #[] (List.replicate (if vs.toArray.isEmpty = true then 0 else k) vs.toArray)) = ((List.replicate k vs).flatten).toArray := by
  have gen : ∀ (k : Nat) (acc : Array Value), List.foldl (fun x1 x2 => x1 ++ x2) acc (List.replicate k vs.toArray) = (acc.toList ++ (List.replicate k vs).flatten).toArray := by
    intro k
    induction k with
    | zero => intro acc; simp
    | succ k ih => intro acc; rw [List.replicate_succ, List.foldl_cons, ih]; simp [List.replicate_succ]
  cases vs with
  | nil => simp
  | cons x r =>
    have : (x :: r).toArray.isEmpty = false := by simp [Array.isEmpty]
    rw [this]
    simpa using gen k #[]
theorem o_mulL {l : Addr} {vs : List Value} (hl : g l = some (.lst vs)) (hlo : 0 ≤ a) (hhi : a < 2 ^ 63) (hz : vs.length * a.toNat ≤ sizeLine) (h : ∀ d, g d = none → Q (.ref d) (upd g d (.lst (List.replicate a.toNat vs).flatten))) :
    TW c F A (binaryOp .Mult (.ref l) (.int a t)) g Q := fun s hb hf hh => by
  obtain ⟨n, e⟩ := hh l _ hl
  have hz' : vs.toArray.size * a.toNat ≤ 2 ^ 24 := by rw [sizeLine_eq] at hz; simpa using hz
  refine wpAny_binaryOp_repeat_ref (T := "list") (U := "int") (by decide) ⟨_, e, rfl⟩ (fun s' => typeIs_int s' a t) noFill_list_mul PySem.F.fills_int_mul PySem.F.slot_int_rmul repeat_list PySem.F.slot_int_index.lookup
    (call_meets PySem.F.slot_int_rmul (typeIs_int s a t) PySem.F.entry_int_rmul (PySem.F.args_int_rmul_2 _ _) (int___rmul___int_list a t l vs.toArray n)
      ⟨e, rfl, ⟨_, e, rfl⟩, call_meets PySem.F.slot_list_mul ⟨_, e, rfl⟩ PySem.F.entry_list_mul (PySem.F.args_list_mul_2 _ _)
        (AutoListH.list___mul___list_int_3 l vs.toArray n a t (by simp [Builtin.List.listFitsIndex]; lia) (by lia) (by simp [Builtin.List.listTooLong, sizeLine]; simp at hz'; lia))
        ⟨e, ?_⟩⟩)
  rw [rep_flat]
  exact ⟨_, Step.new (ao := .lst _) (tk := s.toks) hh (get_size_none _) (fun _ _ q => Heap.get?_push_of_some _ q) ⟨0, Heap.get?_push_size _ rfl⟩, h _ (Has.fresh hh (get_size_none _))⟩
end
end
-- part G4
section
/-! ## Calls -/
section
variable {c : Cx} {F : Fm} {A : Around} {g : GH} {env : Env} {Q : Value → GH → Prop}

theorem TW.looks {α : Type} {t : Sem α} {r : α} {Q : α → GH → Prop} (L : Looks c.M c.B t r) (h : Q r g) : TW c F A t g Q := fun s hb hf hh => L _ _ _ s (fun b o e => (hb b o e).1) ⟨g, Step.refl hh, h⟩
theorem TW.looksAt {α : Type} {t : Sem α} {r : α} {Q : α → GH → Prop} (L : ∀ h, BaseOk c h g → Has c g h → Looks c.M h t r) (h : Q r g) : TW c F A t g Q := fun s hb hf hh => L _ hb hh _ _ _ s (fun _ _ e => e) ⟨g, Step.refl hh, h⟩
theorem TW.keep {α : Type} {vs : List Value} {t : Sem α} {Q : α → GH → Prop} (h : TW c F A t g Q) : TW c F A (t.keep vs) g Q := fun s hb hf hh => Calls.wpAny_keep (h s hb hf hh)

/-- what keeps the called thing -/
noncomputable def Keeps1 (c : Cx) (f : Value) : Prop := ∀ (F : Fm) (A : Around) (g : GH) (P : Keeper → GH → Prop), (∀ k, k = .frame ∨ k = .machine ∨ k = .boundFrame → P k g) → TW c F A (keeperOf f) g P

theorem Keeps1.builtin (id : String) : Keeps1 c (.builtin id) := fun F A g P h => TW.pure (h _ (.inr (.inl rfl)))
theorem Keeps1.type (T : String) : Keeps1 c (.type T) := fun F A g P h => TW.pure (h _ (.inr (.inl rfl)))
theorem Keeps1.of_K {f : Value} (hc : c.Ok) (hk : keepIn c.K f = true) : Keeps1 c f := fun F A g P h => by
  obtain ⟨k, hk', L⟩ := looks_keep (M := c.M) hk hc.kin
  exact TW.looks L (h k (hk'.elim .inl fun e => .inr (.inl e)))

theorem x_callWith {pos : Pos} {f : Value} {first : List Value} {args : List (Bool × Sem Value)} (hk : Keeps1 c f) (hplain : args.any (·.1) = false)
    (h : TW c F A (evalArgs f true args []) g (fun a g' => TW c F A (call f (first ++ a.pos) a.kw) g' Q)) : TW c F A (callWith pos f first args []) g Q := by
  unfold callWith
  refine TW.bind (TW.holding (h.mono fun a g₁ h₁ => TW.bind (TW.standAt ?_)))
  have hs : (args.any (·.1) || ([] : List (Option Str × Sem Value)).any (·.1.isNone)) = false := by rw [hplain]; rfl
  simp only [hs]
  refine TW.bind (hk F A g₁ _ fun k hk' => ?_)
  have tail : ∀ {t : Sem Value}, TW c F A t g₁ Q → TW c F A (t >>= fun r => PySem.holding [r] PySem.point >>= fun _ => Pure.pure r) g₁ Q :=
    fun ht => TW.bind (ht.mono fun r g₂ hr => TW.bind (TW.holding (TW.point (TW.pure hr))))
  have marked (mk : Value) : TW c F A (callMarked mk f (first ++ a.pos) a.kw) g₁ Q := by unfold callMarked; exact TW.keep h₁
  rcases hk' with rfl | rfl | rfl <;> dsimp only <;> first | exact tail h₁ | (split <;> first | exact tail h₁ | exact tail (marked _))

theorem x_args {f : Value} {e : Expr} {rest : List Expr} {pos : Pos} {R : Args → GH → Prop} (h : TW c F A (spliced (backTo pos (starEach (e :: rest) env))) g (fun vs g' => R ⟨vs, []⟩ g'))
    (he : starEach (e :: rest) env = (false, eval e env) :: starEach rest env := by rfl) : TW c F A (evalArgs f true (backTo pos (starEach (e :: rest) env)) []) g R := fun s hb hf hh => by
  have := h s hb hf hh
  rw [he] at this ⊢
  exact Calls.evalArgs_plain this
theorem x_noArgs {f : Value} {pos : Pos} {R : Args → GH → Prop} (h : R ⟨[], []⟩ g) : TW c F A (evalArgs f true (backTo pos (starEach [] env)) []) g R := fun s hb hf hh =>
  evalArgs_nil3 ⟨g, Step.refl hh, h⟩
theorem x_nil {pos : Pos} {R : List Value → GH → Prop} (h : R [] g) : TW c F A (spliced (backTo pos (starEach [] env))) g R := TW.pure h
theorem x_cons {e : Expr} {rest : List Expr} {pos : Pos} {R : List Value → GH → Prop} (h : TW c F A (eval e env) g (fun v g' => TW c F A (spliced (backTo pos (starEach rest env))) g' (fun vs g'' => R (v :: vs) g'')))
    (he : starEach (e :: rest) env = (false, eval e env) :: starEach rest env := by rfl) : TW c F A (spliced (backTo pos (starEach (e :: rest) env))) g R := by
  rw [he]
  show TW c F A (do let v ← eval e env; let here ← (Pure.pure [v] : Sem (List Value)); return here ++ (← PySem.holding here (spliced (backTo pos (starEach rest env))))) g R
  refine TW.bind (h.mono fun v g₁ h₁ => TW.bind (TW.pure (TW.bind (TW.holding (h₁.mono fun vs g₂ h₂ => TW.pure h₂)))))
theorem plain_backTo {pos : Pos} : ∀ {args : List Expr}, (args.all fun e => match e with | .Starred .. => false | _ => true) = true → (backTo pos (starEach args env)).any (·.1) = false
  | [], _ => rfl
  | e :: r, h => by
    rw [List.all_cons, Bool.and_eq_true] at h
    have ih := plain_backTo (pos := pos) h.2
    cases e <;> first | exact ih | exact absurd h.1 (by simp)

noncomputable def plainArgs (args : List Expr) : Bool := args.all fun e => match e with | .Starred .. => false | _ => true

/-- f(..): the name first, then the arguments, then the call -/
theorem e_CallN {x : Str} {np pos : Pos} {e : Expr} {rest : List Expr} (h : TW c F A (eval (.Name x np) env) g (fun f g₁ => Keeps1 c f ∧ TW c F A (spliced (backTo pos (starEach (e :: rest) env))) g₁ (fun vs g₂ => TW c F A (call f vs) g₂ Q)))
    (hp : plainArgs (e :: rest) = true := by rfl) (he : starEach (e :: rest) env = (false, eval e env) :: starEach rest env := by rfl) : TW c F A (eval (.Call (.Name x np) (e :: rest) [] pos) env) g Q := by
  show TW c F A (do callWith pos (← eval (.Name x np) env) [] (backTo pos (starEach (e :: rest) env)) (backToKw pos (keywordEach [] env))) g Q
  exact TW.bind (h.mono fun f g₁ ⟨hk, h₁⟩ => x_callWith hk (plain_backTo hp) (x_args h₁ he))

/-! attributes and methods -/
theorem e_Attr {o : Expr} {name : Str} {pos : Pos} (h : TW c F A (eval o env) g (fun ov g₁ => TW c F A (getAttr ov name true) g₁ Q))
    (hbase : attributeBase o name env (eval o env) = eval o env := by rfl) (ht : ∀ x y, letTemporaryGo o x y = Pure.pure () := by intro _ _; rfl) : TW c F A (eval (.Attribute o name pos) env) g Q := by
  show TW c F A (do let ov ← attributeBase o name env (eval o env); PySem.standAt pos.atName; let r ← PySem.holding [ov] (getAttr ov name true); letTemporaryGo o ov r; Pure.pure r) g Q
  rw [hbase]
  refine TW.bind (h.mono fun ov g₁ h₁ => TW.bind (TW.standAt (TW.bind (TW.holding (h₁.mono fun r g₂ h₂ => ?_)))))
  rw [ht]
  exact TW.bind (TW.pure (TW.pure h₂))
theorem TW.letGo {o : Expr} {ov r : Value} {R : Unit → GH → Prop} (h : R () g) : TW c F A (letTemporaryGo o ov r) g R := fun s hb hf hh => wpAny_letTemporaryGo ⟨g, Step.refl hh, h⟩
/-- the like, on an object that stands in no name -/
theorem e_Attr' {o : Expr} {name : Str} {pos : Pos} (h : TW c F A (eval o env) g (fun ov g₁ => TW c F A (getAttr ov name true) g₁ Q))
    (hbase : attributeBase o name env (eval o env) = eval o env := by rfl) : TW c F A (eval (.Attribute o name pos) env) g Q := by
  show TW c F A (do let ov ← attributeBase o name env (eval o env); PySem.standAt pos.atName; let r ← PySem.holding [ov] (getAttr ov name true); letTemporaryGo o ov r; Pure.pure r) g Q
  rw [hbase]
  exact TW.bind (h.mono fun ov g₁ h₁ => TW.bind (TW.standAt (TW.bind (TW.holding (h₁.mono fun r g₂ h₂ => TW.bind (TW.letGo (TW.pure h₂)))))))

theorem e_CallM {o : Expr} {name : Str} {apos pos : Pos} {args : List Expr}
    (h : TW c F A (eval o env) g (fun ov g₁ => ∀ pl : Sem Bool, TW c F A (getMethod ov name pl) g₁ (fun fm g₂ => Keeps1 c fm.1 ∧ TW c F A (evalArgs fm.1 true (backTo pos (starEach args env)) []) g₂ (fun a g₃ => TW c F A (call fm.1 (fm.2 ++ a.pos) a.kw) g₃ Q))))
    (hp : plainArgs args = true := by rfl) (hn : decide (args.length < 29) = true := by rfl)
    (hbase : attributeBase o name env (eval o env) = eval o env := by rfl) (hline : (apos.endLine == pos.line) = true := by rfl) : TW c F A (eval (.Call (.Attribute o name apos) args [] pos) env) g Q := by
  have few : methodCallForm (args.length + ([] : List Keyword).length) (backTo pos (starEach args env)) (backToKw pos (keywordEach [] env)) = true := by
    unfold methodCallForm
    have h1 := plain_backTo (env := env) (pos := pos) hp
    rw [List.any_eq_false] at h1
    have h2 : (backTo pos (starEach args env)).all (fun x => !x.1) = true := List.all_eq_true.mpr fun x hx => by simpa using h1 x hx
    have hn' := of_decide_eq_true hn
    rw [h2, show backToKw pos (keywordEach [] env) = [] from rfl]
    simp
    lia
  show TW c F A (do
    let ov ← attributeBase o name env (eval o env)
    PySem.standAt apos.atName
    methodCall o name apos pos env ov (args.length + ([] : List Keyword).length) (backTo pos (starEach args env)) (backToKw pos (keywordEach [] env))) g Q
  rw [hbase]
  refine TW.bind (h.mono fun ov g₁ h₁ => TW.bind (TW.standAt ?_))
  unfold methodCall
  rw [few]
  show TW c F A (do
    let (f, first) ← PySem.holding [ov] (getMethod ov name (do return (← importBound o env).getD true))
    let callPos ← methodCallPos true o env apos pos
    callWith callPos f first (backTo pos (starEach args env)) (backToKw pos (keywordEach [] env))) g₁ Q
  refine TW.bind (TW.holding ((h₁ _).mono fun fm g₂ ⟨hk, h₂⟩ => ?_))
  obtain ⟨f, first⟩ := fm
  have e : methodCallPos true o env apos pos = Pure.pure pos := by
    unfold methodCallPos
    rw [hline]; rfl
  dsimp only
  rw [e]
  exact TW.bind (TW.pure (x_callWith hk (plain_backTo hp) h₂))

theorem x_methL {name : Str} {id : String} {l : Addr} {vs : List Value} {pl : Sem Bool} {R : Value × List Value → GH → Prop} (slot : Slot "list" name id) (hty : typeOf (.builtin id) = Pure.pure (.type "method_descriptor"))
    (hl : g l = some (.lst vs)) (h : R (.builtin id, [.ref l]) g) : TW c F A (getMethod (.ref l) name pl) g R := fun s hb hf hh => by
  obtain ⟨n, e⟩ := hh l _ hl
  exact getMethod_builtin (T := "list") ⟨_, e, rfl⟩ PySem.F.plainAttrs_list slot hty (fun a q => by cases q; exact ⟨_, e, rfl⟩) ⟨g, Step.refl hh, h⟩
end
end
-- part G5
section
/-! ## A function of the text, called -/
noncomputable def top (i : Nat) : Option Stmt := PySem.Challenge.pw_nt0174_01.main.body[i]?
noncomputable def meth (i j : Nat) : Option Stmt := match PySem.Challenge.pw_nt0174_01.main.body[i]? with
  | some (.ClassDef _ _ _ b _ _ _ _ _ _ _) => b[j]?
  | _ => none

/-- the base holds at a the function that the statement makes -/
noncomputable def FnAt (c : Cx) (st : Option Stmt) (a : Addr) : Prop := keepIn c.K (.ref a) = true ∧
  ∀ name params body decs ret tps scope ts bind pos, st = some (.FunctionDef name params body decs ret tps scope ts bind pos) →
    ∃ o nm qual doc pm an cd ct, c.B.get? a = some o ∧ o.data = .func (fnOf nm qual params body scope .none .none doc pm an cd ct) ∧ c.B.CodeRec cd qual

noncomputable def scopeOk (scope : Scope) : Bool := scope.kind == .function && !scope.isCoroutine && !scope.isGenerator &&
  decide (((cellsFrom 0 scope.names []).map (·.1)).Nodup) && (cellsFrom 0 scope.names []).all (fun p => scope.names.lookup p.1 == some .cell)

noncomputable def fenv (scope : Scope) (L f : Addr) (qual : Str) (cd : Value) : Env :=
  { scope, locals := L, globals := mainGlobals, cells := cellsFrom (L + 1) scope.names [], qual := qual ++ ".<locals>.", func := some f, code := cd, frame := some L, builtins := builtinsNs }

noncomputable def bindR : List (Str × Value) → Rho → Rho
  | [], m => m
  | (n, v) :: r, m => bindR r (setv m n v)

theorem cellsFrom_names : ∀ (names : List (Str × NameKind)) (n m : Nat) (acc acc' : List (Str × Addr)), acc.map (·.1) = acc'.map (·.1) → (cellsFrom n names acc).map (·.1) = (cellsFrom m names acc').map (·.1)
  | [], _, _, _, _, h => h
  | (x, k) :: r, n, m, acc, acc', h => by
    unfold cellsFrom
    split
    · exact cellsFrom_names r (n + 1) (m + 1) _ _ (by simp [h])
    · exact cellsFrom_names r n m _ _ h
theorem bindL_eq {kindOf : Str → Option NameKind} {x : Str} (hx : kindOf x = some .local) : ∀ (binds : List (Str × Value)) (m ρ : Rho), m x = ρ x → bindL kindOf binds m x = bindR binds ρ x
  | [], _, _, h => h
  | (n, v) :: r, m, ρ, h => by
    unfold bindL bindR
    refine bindL_eq hx r _ _ ?_
    unfold setv
    by_cases hn : kindOf n = some .local
    · rw [if_pos hn]
      show (if x = n then _ else _) = if x = n then _ else _
      rw [h]
    · rw [if_neg hn, h]
      have : x ≠ n := by rintro rfl; exact hn hx
      rw [if_neg this]
theorem bindC_eq {kindOf : Str → Option NameKind} {x : Str} (hx : kindOf x ≠ some .local) : ∀ (binds : List (Str × Value)) (m ρ : Rho), m x = ρ x → bindC kindOf binds m x = bindR binds ρ x
  | [], _, _, h => h
  | (n, v) :: r, m, ρ, h => by
    unfold bindC bindR
    refine bindC_eq hx r _ _ ?_
    unfold setv
    by_cases hn : kindOf n = some .local
    · rw [if_pos hn, h]
      have : x ≠ n := by rintro rfl; exact hx hn
      rw [if_neg this]
    · rw [if_neg hn]
      show (if x = n then _ else _) = if x = n then _ else _
      rw [h]
theorem lookup_mem_fst {l : List (Str × Addr)} {x : Str} (h : x ∈ l.map (·.1)) : (l.lookup x).isSome = true := by
  induction l with
  | nil => cases h
  | cons p r ih =>
    obtain ⟨k, v⟩ := p
    rw [List.lookup_cons]
    cases q : x == k with
    | true => rfl
    | false =>
      rw [List.map_cons, List.mem_cons] at h
      rcases h with h | h
      · simp at q; exact absurd h q
      · exact ih h

theorem lookup_of_nodup {l : List (Str × Addr)} {x : Str} {b : Addr} (hn : (l.map (·.1)).Nodup) (h : (x, b) ∈ l) : l.lookup x = some b := by
  induction l with
  | nil => cases h
  | cons p r ih =>
    obtain ⟨k, v⟩ := p
    rw [List.map_cons, List.nodup_cons] at hn
    rw [List.lookup_cons]
    rcases List.mem_cons.mp h with e | h2
    · cases e; simp
    · have : (x == k) = false := beq_eq_false_iff_ne.mpr fun e => hn.1 (List.mem_map.mpr ⟨_, h2, e⟩)
      rw [this]; exact ih hn.2 h2

noncomputable def retOf : Flow → Value
  | .ret v => v
  | _ => .none

section
variable {c : Cx} {F : Fm} {A : Around} {g : GH} {Q : Value → GH → Prop}

theorem f_code {st : Option Stmt} {a : Addr} {vals : List Value} {n : Nat} {name : Str} {params : Arguments} {body : List Stmt} {decs : List Expr} {ret : Option Expr} {tps : List TypeParam} {scope : Scope} {ts : Option Scope} {bind : Str} {pos : Pos} (binds : List (Str × Value))
    (hc : c.Ok) (hf : FnAt c st a) (hA : Room (n + 1) A) (hst : st = some (.FunctionDef name params body decs ret tps scope ts bind pos)) (hs : scopeOk scope = true)
    (hbind : ∀ nm qual doc pm an cd ct, bindArgs (fnOf nm qual params body scope .none .none doc pm an cd ct) ⟨vals, []⟩ = Pure.pure binds)
    (hkind : (binds.all fun y => scope.names.lookup y.1 == some .local || scope.names.lookup y.1 == some .cell) = true)
    (h : ∀ L qual cd A', EnvOk c (fenv scope L a qual cd) → Room n A' → BW c (fenv scope L a qual cd) A' (execs body (fenv scope L a qual cd)) (bindR binds fun _ => none) g (fun fl ρ' g' => Q (retOf fl) g')) :
    ∀ s : Shared, BaseOk c s.heap g → Has c g s.heap → codeAny c.M A (.call (.ref a) ⟨vals, []⟩) (fun r s' => match r with | .ok (.ret v) => ∃ g', Step c s g s' g' ∧ Q v g' | .ok _ => False | .error _ => False) s := fun s hb hh => by
  obtain ⟨o, nm, qual, doc, pm, an, cd, ct, ho, hd, hcd⟩ := hf.2 _ _ _ _ _ _ _ _ _ _ hst
  unfold scopeOk at hs
  simp only [Bool.and_eq_true, Bool.not_eq_true', beq_iff_eq, decide_eq_true_eq] at hs
  obtain ⟨⟨⟨⟨hk, hco⟩, hgen⟩, hnd⟩, hcl⟩ := hs
  have hB : ∀ b o, c.B.get? b = some o → s.heap.get? b = some o := fun b o e => (hb b o e).1
  have nodup : ∀ m, ((cellsFrom m scope.names []).map (·.1)).Nodup := fun m => by rw [cellsFrom_names scope.names m 0 [] [] rfl]; exact hnd
  have kinds : ∀ m x, x ∈ (cellsFrom m scope.names []).map (·.1) → scope.names.lookup x = some .cell := fun m x hx => by
    rw [cellsFrom_names scope.names m 0 [] [] rfl] at hx
    obtain ⟨p, hp, rfl⟩ := List.mem_map.mp hx
    exact beq_iff_eq.mp (List.all_eq_true.mp hcl p hp)
  refine codeAny_call_cells (fd := fnOf nm qual params body scope .none .none doc pm an cd ct) (body := body) (binds := binds) (by have := hA.1; lia) (hB _ _ ho) hd (hc.nolimit.keeps hB) (hcd.keeps hB) rfl (hbind ..) rfl ?_ ?_ hco hgen hk
  · exact kindsX hkind (s.heap.objs.size + 1)
  · intro s₁ x
    have eE : callEnvC (fnOf nm qual params body scope .none .none doc pm an cd ct) s.heap.objs.size a = fenv scope s.heap.objs.size a qual cd := rfl
    rw [eE] at x ⊢
    generalize hE : fenv scope s.heap.objs.size a qual cd = env at x ⊢
    have hL : env.locals = s.heap.objs.size := by rw [← hE]; rfl
    have hcells : env.cells = cellsFrom (s.heap.objs.size + 1) scope.names [] := by rw [← hE]; rfl
    have hsc : env.scope = scope := by rw [← hE]; rfl
    have fresh : ∀ b, Fp env b → s.heap.get? b = none := fun b ob => by
      rcases ob with rfl | ⟨y, hy⟩
      · rw [hL]; exact get_size_none _
      · exact get_ge_none (Nat.le_of_lt (by have := x.above y b hy; rw [hL] at this; exact this))
    have hkd : env.kindOf = fun y => scope.names.lookup y := by funext y; unfold Env.kindOf; rw [hsc]
    have ok : EnvOk c env := {
      ckind := fun y b hy => by
        rw [hkd]
        have : scope.names.lookup y = some .cell := kinds _ y (by rw [← hcells]; exact List.mem_map.mpr ⟨_, hy, rfl⟩)
        simp [this]
      cnod := by rw [hcells]; exact nodup _
      kind := by rw [hsc]; exact hk
      glob := by rw [← hE]; rfl
      blt := by rw [← hE]; rfl
      apart := x.apart
      locs := fun y b hy => Nat.ne_of_gt (x.above y b hy)
      base := fun b ob => by
        cases e : c.B.get? b with
        | none => rfl
        | some o' => have := hB _ _ e; rw [fresh b ob] at this; cases this }
    obtain ⟨⟨h₁, tk, rfl⟩, hns, hkeep, _⟩ := x.toInCall
    have hh₁ : Has c g h₁ := fun b ao e => RepH.keep (hh b ao e) fun o e => hkeep _ _ e
    have fr : FrameAt env (bindR binds fun _ => none) h₁ := {
      ns := ⟨_, hns, fun y v hy hv => (bindL_eq (kindOf := env.kindOf) hy binds _ _ rfl).trans hv⟩
      cells := fun y b e => by
        have := x.cell y b e
        have hy : env.kindOf y ≠ some .local := by
          rw [hkd]
          have : scope.names.lookup y = some .cell := kinds _ y (by rw [← hcells]; exact List.mem_map_of_mem (f := Prod.fst) (mem_of_lookup e))
          simp [this]
        rw [bindC_eq hy binds _ (fun _ => none) rfl] at this
        exact ⟨_, this, fun v hv => hv⟩ }
    have own : ∀ b, Fp env b → g b = none ∧ ∃ o, h₁.get? b = some o := fun b ob => by
      refine ⟨hh.fresh (fresh b ob), ?_⟩
      rcases ob with rfl | ⟨y, hy⟩
      · obtain ⟨o, _, _, e, _⟩ := hns; exact ⟨o, e⟩
      · have : y ∈ env.cells.map (·.1) := List.mem_map_of_mem (f := Prod.fst) hy
        obtain ⟨b', hb'⟩ := Option.isSome_iff_exists.mp (lookup_mem_fst this)
        have nd : (env.cells.map (·.1)).Nodup := by rw [hcells]; exact nodup _
        have : b' = b := Option.some.inj (hb'.symm.trans (lookup_of_nodup nd hy))
        subst this
        obtain ⟨o, e, _⟩ := x.cell y b' hb'
        exact ⟨o, e⟩
    have room : Room n (A.deeper env) := ⟨by show A.depth + 1 + n < _; have := hA.1; lia, by show A.units + 3 + 16 * n < _; have := hA.2.1; lia, hA.2.2⟩
    have bw := h s.heap.objs.size qual cd (A.deeper env) (hE ▸ ok) room
    rw [hE] at bw
    refine wpAny_mono (bw { s with heap := h₁, toks := tk } (fun b o e => ⟨hkeep _ _ (hB b o e), (hb b o e).2⟩) ⟨fr, own⟩ hh₁) (fun fl s' q => ?_) (fun _ _ q => q.elim)
    obtain ⟨ρ', g', _, st', q⟩ := q
    refine ⟨g', ⟨st'.has, fun b o e n => st'.out b o (hkeep _ _ e) n fun ob => ?_, st'.os, st'.gens⟩, ?_⟩
    · have := fresh b ob.fp; rw [e] at this; cases this
    · cases fl <;> exact q

theorem f_call {st : Option Stmt} {a : Addr} {vals : List Value} {n : Nat} {name : Str} {params : Arguments} {body : List Stmt} {decs : List Expr} {ret : Option Expr} {tps : List TypeParam} {scope : Scope} {ts : Option Scope} {bind : Str} {pos : Pos} (binds : List (Str × Value))
    (hc : c.Ok) (hf : FnAt c st a) (hA : Room (n + 1) A) (hst : st = some (.FunctionDef name params body decs ret tps scope ts bind pos)) (hs : scopeOk scope = true)
    (hbind : ∀ nm qual doc pm an cd ct, bindArgs (fnOf nm qual params body scope .none .none doc pm an cd ct) ⟨vals, []⟩ = Pure.pure binds)
    (hkind : (binds.all fun y => scope.names.lookup y.1 == some .local || scope.names.lookup y.1 == some .cell) = true)
    (h : ∀ L qual cd A', EnvOk c (fenv scope L a qual cd) → Room n A' → BW c (fenv scope L a qual cd) A' (execs body (fenv scope L a qual cd)) (bindR binds fun _ => none) g (fun fl ρ' g' => Q (retOf fl) g')) :
    TW c F A (call (.ref a) vals) g Q := fun s hb hfr hh => wpAny_call (codeAny_mono (f_code binds hc hf hA hst hs hbind hkind h s hb hh) fun r s' q => by
      rcases r with e | (_ | _ | _ | v) <;> first | exact q | exact q.elim)
end
end
-- part G6
section
/-! ## Statements -/
section
variable {c : Cx} {A : Around} {g : GH} {env : Env} {ρ : Rho} {Q : Flow → Rho → GH → Prop} {U : Unit → Rho → GH → Prop}

theorem b_nil (h : Q .next ρ g) : BW c env A (execs [] env) ρ g Q := BW.of_tw (TW.pure h)
theorem b_cons {st : Stmt} {rest : List Stmt} (he : EnvOk c env) (h : BW c env A (exec st env) ρ g (fun f ρ' g' => match f with | .next => BW c env A (execs rest env) ρ' g' Q | f => Q f ρ' g')) :
    BW c env A (execs (st :: rest) env) ρ g Q := by
  rw [execs_cons]
  refine BW.bind he (h.mono fun f ρ' g' h' => ?_)
  cases f <;> first | exact h' | exact BW.pure h'
theorem b_Return {e : Expr} {pos : Pos} (he : EnvOk c env) (h : TW c (Fm.fr env ρ) A (eval e env) g (fun v g' => Q (.ret v) ρ g')) : BW c env A (exec (.Return (some e) pos) env) ρ g Q := by
  rw [exec_Return_some]
  exact BW.bind he (BW.standAt (BW.bindT he (h.mono fun v g' q => BW.pure q)))
theorem b_ReturnNone {pos : Pos} (he : EnvOk c env) (h : Q (.ret .none) ρ g) : BW c env A (exec (.Return none pos) env) ρ g Q := by
  rw [exec_Return_none]
  exact BW.bind he (BW.standAt (BW.pure h))
theorem b_If {t : Expr} {b o : List Stmt} {pos : Pos} (he : EnvOk c env) (h : TW c (Fm.fr env ρ) A (isTrue t env (eval t env)) g (fun z g₁ => if z then BW c env A (execs b env) ρ g₁ Q else BW c env A (execs o env) ρ g₁ Q)) :
    BW c env A (exec (.If t b o pos) env) ρ g Q := by
  rw [exec_If]
  refine BW.bind he (BW.standAt (BW.bindT he (h.mono fun z g₁ h₁ => ?_)))
  cases z <;> exact h₁
theorem b_Expr {e : Expr} {pos : Pos} (he : EnvOk c env) (h : TW c (Fm.fr env ρ) A (eval e env) g (fun v g' => (∀ a, v ≠ .ref a) ∧ Q .next ρ g')) (hi : interactive env = false := by rfl) (hs : swapsWith e none pos.line env = Pure.pure false := by rfl) :
    BW c env A (exec (.Expr e pos) env) ρ g Q := by
  rw [exec_Expr env e pos hi hs]
  refine BW.bind he (BW.standAt (BW.bindT he (h.mono fun v g' q => ?_)))
  rw [dropValue_plain q.1]
  exact BW.pure q.2

/-! stores -/
theorem setv_same (ρ : Rho) (x : Str) (v : Value) : setv ρ x v x = some v := by simp [setv]
theorem setv_ne {ρ : Rho} {x y : Str} {v : Value} (h : y ≠ x) : setv ρ x v y = ρ y := by simp [setv, h]

theorem BW.store_local {x : Str} {v : Value} (he : EnvOk c env) (hl : env.kindOf x = some .local) (h : U () (setv ρ x v) g) : BW c env A (storeName env x v) ρ g U := fun s hb hf hh => by
  obtain ⟨⟨m, hn, hm⟩, hc⟩ := hf.1
  refine wpAny_storeName_local hl hn (fun h' hn' hs' => ?_) (by rw [he.kind]; rfl)
  have own : ∀ b, Fp env b → g b = none ∧ ∃ o, h'.get? b = some o := fun b ob => by
    refine ⟨(hf.2 b ob).1, ?_⟩
    by_cases hb : b = env.locals
    · subst hb; obtain ⟨o, _, _, e, _⟩ := hn'; exact ⟨o, e⟩
    · obtain ⟨o, e⟩ := (hf.2 b ob).2; exact ⟨o, (hs'.2 b hb).trans e⟩
  refine ⟨setv ρ x v, g, ⟨⟨⟨_, hn', fun y w hy hw => ?_⟩, fun y a e => ?_⟩, own⟩, ⟨fun b ao e => RepH.keep (hh b ao e) fun o e' => (hs'.2 b ?_).trans e', fun b o e n nb => ⟨(hs'.2 b ?_).trans e, n⟩, rfl, rfl⟩, h⟩
  · show (if y = x then some v else m y) = some w
    unfold setv at hw
    by_cases q : y = x
    · rw [if_pos q] at hw ⊢; exact hw
    · rw [if_neg q] at hw ⊢; exact hm y w hy hw
  · have hyx : y ≠ x := by rintro rfl; exact he.ckind y a (mem_of_lookup e) hl
    obtain ⟨o, h1, h2⟩ := hc y a e
    exact ⟨o, h1.sameBut hs' (he.locs y a (mem_of_lookup e)), fun w hw => h2 w (by rw [setv_ne hyx] at hw; exact hw)⟩
  · rintro rfl; have := (hf.2 _ (.inl rfl)).1; rw [this] at e; cases e
  · rintro rfl; exact nb (.inl rfl)

theorem cell_inj {l : List (Str × Addr)} (hp : l.Pairwise fun x y => x.2 ≠ y.2) {x y : Str} {a : Addr} (hx : l.lookup x = some a) (hy : l.lookup y = some a) : x = y := name_of_addr hp (mem_of_lookup hx) (mem_of_lookup hy)

theorem BW.store_cell {x : Str} {v : Value} {a : Addr} (he : EnvOk c env) (hfn : env.func.isSome = true) (hl : env.kindOf x = some .cell) (ha : env.cells.lookup x = some a) (h : U () (setv ρ x v) g) : BW c env A (storeName env x v) ρ g U := fun s hb hf hh => by
  obtain ⟨⟨m, hn, hm⟩, hc⟩ := hf.1
  obtain ⟨v₀, hv₀, _⟩ := hc x a ha
  refine wpAny_storeName_cell he.kind hl ha hv₀ fun h' hc' hs' => ?_
  have oa : Own env a := .inr ⟨hfn, x, mem_of_lookup ha⟩
  have own : ∀ b, Fp env b → g b = none ∧ ∃ o, h'.get? b = some o := fun b ob => by
    refine ⟨(hf.2 b ob).1, ?_⟩
    by_cases hb : b = a
    · subst hb; obtain ⟨o, e, _⟩ := hc'; exact ⟨o, e⟩
    · obtain ⟨o, e⟩ := (hf.2 b ob).2; exact ⟨o, (hs'.2 b hb).trans e⟩
  refine ⟨setv ρ x v, g, ⟨⟨⟨_, hn.sameBut hs' (Ne.symm (he.locs x a (mem_of_lookup ha))), fun y w hy hw => ?_⟩, fun y b e => ?_⟩, own⟩,
    ⟨fun b ao e => RepH.keep (hh b ao e) fun o e' => (hs'.2 b ?_).trans e', fun b o e n nb => ⟨(hs'.2 b ?_).trans e, n⟩, rfl, rfl⟩, h⟩
  · have hyx : y ≠ x := by rintro rfl; rw [hl] at hy; cases hy
    rw [setv_ne hyx] at hw; exact hm y w hy hw
  · by_cases hyx : y = x
    · subst hyx; rw [ha] at e; cases e; exact ⟨_, hc', fun w hw => by rw [setv_same] at hw; exact hw⟩
    · obtain ⟨o, h1, h2⟩ := hc y b e
      exact ⟨o, h1.sameBut hs' fun q => hyx (cell_inj he.apart (q ▸ e) ha), fun w hw => h2 w (by rw [setv_ne hyx] at hw; exact hw)⟩
  · rintro rfl; have := (hf.2 _ oa.fp).1; rw [this] at e; cases e
  · rintro rfl; exact nb oa

theorem BW.bindName {x : Str} {v : Value} (h : BW c env A (storeName env x v) ρ g U) : BW c env A (PySem.bindName env x v) ρ g U := fun s hb hf hh => wpAny_bindName (h s hb hf hh)
theorem a_Name {x : Str} {pos : Pos} {v : Value} (he : EnvOk c env) (h : BW c env A (storeName env x v) ρ g U) : BW c env A (assign (.Name x pos) env v) ρ g U := by
  rw [PySem.assign_Name]; exact BW.bind he (BW.standAt (BW.bindName h))
theorem a_local {x : Str} {pos : Pos} {v : Value} (he : EnvOk c env) (hl : env.kindOf x = some .local) (h : U () (setv ρ x v) g) : BW c env A (assign (.Name x pos) env v) ρ g U := a_Name he (BW.store_local he hl h)

theorem BW.unpackT {T : Addr} {vs : List Value} {n : Nat} {R : List Value → Rho → GH → Prop} (hA : A.handled = none) (hT : g T = some (.tup vs)) (hn : n = vs.length) (h : R vs ρ g) : BW c env A (unpackItems (.ref T) n none) ρ g R := by
  refine BW.of_tw fun s hb hf hh => ?_
  have e := hh T _ hT
  have it : s.heap.IsTuple T vs.toArray := ⟨_, e, rfl, 0, rfl⟩
  subst hn
  have := wpAny_unpackItems_tuple (prog := c.prog) (w := c.w) (A := A) (E := fun _ _ => False) (Q := fun v s' => ∃ g', Step c s g s' g' ∧ R v ρ g') hA it (fun h' hx => ⟨g, Step.junk (tk := s.toks) hh fun b o q => hx b o (Nat.ne_of_lt (Heap.lt_size q)) q, by simpa using h⟩)
  simpa using this
theorem a_Tuple {elts : List Expr} {k : Nat} {pos : Pos} {T : Addr} {vs : List Value} (he : EnvOk c env) (hA : A.handled = none) (hT : g T = some (.tup vs)) (hn : (assignEach elts env).length = vs.length)
    (h : BW c env A (assignInOrder ((assignEach elts env).map (·.2)) vs) ρ g U) (hs : (assignEach elts env).findIdx? (·.1) = none := by rfl) : BW c env A (assign (.Tuple elts k pos) env (.ref T)) ρ g U := by
  show BW c env A (do PySem.standAt pos; unpack (.ref T) (assignEach elts env)) ρ g U
  refine BW.bind he (BW.standAt ?_)
  unfold unpack
  rw [hs]
  exact BW.bind he (BW.holding (BW.unpackT hA hT hn h))
theorem a_none (h : U () ρ g) : BW c env A (assignInOrder [] []) ρ g U := BW.of_tw (TW.pure h)
theorem a_more {t : Value → Sem Unit} {ts : List (Value → Sem Unit)} {x : Value} {xs : List Value} (he : EnvOk c env) (h : BW c env A (t x) ρ g (fun _ ρ' g' => BW c env A (assignInOrder ts xs) ρ' g' U)) : BW c env A (assignInOrder (t :: ts) (x :: xs)) ρ g U := by
  rw [assignInOrder]; exact BW.bind he (BW.holding h)

/-! assignments -/
theorem b_Assign {x : Str} {pos' pos : Pos} {e : Expr} (he : EnvOk c env) (h : TW c (Fm.fr env ρ) A (eval e env) g (fun v g' => BW c env A (storeName env x v) ρ g' (fun _ => Q .next))) (hs : swapsWith e (some (.Name x pos')) pos.line env = Pure.pure false := by rfl) :
    BW c env A (exec (.Assign [.Name x pos'] e pos) env) ρ g Q := by
  rw [exec_Assign_Name env x pos' e pos hs]
  exact BW.bind he (BW.standAt (BW.bindT he (h.mono fun v g' q => BW.bind he (BW.standAt (BW.bind he ((BW.bindName q).mono fun _ _ _ z => BW.pure z))))))
theorem b_AssignL {x : Str} {pos' pos : Pos} {e : Expr} (he : EnvOk c env) (hl : env.kindOf x = some .local) (h : TW c (Fm.fr env ρ) A (eval e env) g (fun v g' => Q .next (setv ρ x v) g')) (hs : swapsWith e (some (.Name x pos')) pos.line env = Pure.pure false := by rfl) :
    BW c env A (exec (.Assign [.Name x pos'] e pos) env) ρ g Q := b_Assign he (h.mono fun v g' q => BW.store_local he hl q) hs
theorem b_AssignC {x : Str} {pos' pos : Pos} {e : Expr} {a : Addr} (he : EnvOk c env) (hfn : env.func.isSome = true) (hl : env.kindOf x = some .cell) (ha : env.cells.lookup x = some a) (h : TW c (Fm.fr env ρ) A (eval e env) g (fun v g' => Q .next (setv ρ x v) g')) (hs : swapsWith e (some (.Name x pos')) pos.line env = Pure.pure false := by rfl) :
    BW c env A (exec (.Assign [.Name x pos'] e pos) env) ρ g Q := b_Assign he (h.mono fun v g' q => BW.store_cell he hfn hl ha q) hs
theorem b_AssignT {elts : List Expr} {k : Nat} {tpos pos : Pos} {e : Expr} (he : EnvOk c env) (h : TW c (Fm.fr env ρ) A (eval e env) g (fun v g' => BW c env A (assign (.Tuple elts k tpos) env v) ρ g' (fun _ => Q .next)))
    (hs : swapsWithSole [.Tuple elts k tpos] e pos.line env = Pure.pure false := by rfl) (hw : swappedStores [.Tuple elts k tpos] e env = Pure.pure none := by rfl) : BW c env A (exec (.Assign [.Tuple elts k tpos] e pos) env) ρ g Q := by
  rw [exec_Assign_arm]
  refine BW.bind he (BW.standAt ?_)
  rw [hs, hw]
  refine BW.bind he (BW.pure ?_)
  rw [if_neg (by decide)]
  refine BW.bindT he (h.mono fun v g' q => BW.bind he (BW.pure ?_))
  show BW c env A (do assignAll v ((assignEach [.Tuple elts k tpos] env).map (·.2)); Pure.pure .next) ρ g' Q
  exact BW.bind he (q.mono fun _ _ _ z => BW.pure z)
/-- a, b = x, y: the stores go from behind -/
theorem b_AssignSw {elts : List Expr} {k : Nat} {tpos pos : Pos} {e : Expr} {names : List Str} (he : EnvOk c env) (hA : A.handled = none)
    (h : TW c (Fm.fr env ρ) A (eval e env) g (fun v g' => ∃ T vs, v = .ref T ∧ g' T = some (.tup vs) ∧ names.length = vs.length ∧ BW c env A (assignInOrder (names.reverse.map fun n => PySem.bindName env n) vs.reverse) ρ g' (fun _ => Q .next)))
    (hs : swapsWithSole [.Tuple elts k tpos] e pos.line env = Pure.pure false := by rfl) (hw : swappedStores [.Tuple elts k tpos] e env = Pure.pure (some names) := by rfl) : BW c env A (exec (.Assign [.Tuple elts k tpos] e pos) env) ρ g Q := by
  rw [exec_Assign_arm]
  refine BW.bind he (BW.standAt ?_)
  rw [hs, hw]
  refine BW.bind he (BW.pure ?_)
  rw [if_neg (by decide)]
  refine BW.bindT he (h.mono fun v g' q => BW.bind he (BW.pure ?_))
  obtain ⟨T, vs, rfl, hT, hn, q⟩ := q
  show BW c env A (do PySem.rule "assign.swapped-stores"; let items ← unpackItems (.ref T) names.length none; assignInOrder (names.reverse.map fun n => PySem.bindName env n) items.reverse; Pure.pure .next) ρ g' Q
  exact BW.bind he (BW.of_tw (TW.rule (BW.bind he (BW.unpackT hA hT hn (BW.bind he (q.mono fun _ _ _ z => BW.pure z))))))
theorem assign_Sub_eq (o i : Expr) (pos : Pos) (env : Env) (v : Value) : assign (.Subscript o i pos) env v = (do
    let ov ← PySem.holding [v] (eval o env)
    let iv ← PySem.holding [v, ov] (eval i env)
    PySem.standAt pos
    PySem.holding [v, ov, iv] (setItem ov iv v)
    PySem.release (match i with | .Slice _ _ none _ => [iv, v, ov] | _ => [v, ov, iv]) []) := rfl
theorem b_AssignSub {o i : Expr} {pos' pos : Pos} {e : Expr} (he : EnvOk c env) (h : TW c (Fm.fr env ρ) A (eval e env) g (fun v g₁ => TW c (Fm.fr env ρ) A (eval o env) g₁ (fun ov g₂ => TW c (Fm.fr env ρ) A (eval i env) g₂ (fun iv g₃ =>
      TW c (Fm.fr env ρ) A (setItem ov iv v) g₃ (fun _ g₄ => Q .next ρ g₄))))) (hs : swapsWith e (some (.Subscript o i pos')) pos.line env = Pure.pure false := by rfl) :
    BW c env A (exec (.Assign [.Subscript o i pos'] e pos) env) ρ g Q := by
  rw [exec_Assign_Subscript o i pos' e pos hs]
  refine BW.bind he (BW.standAt (BW.bindT he (h.mono fun v g₁ h₁ => ?_)))
  rw [assign_Sub_eq]
  refine BW.bindT he (TW.bind (TW.holding (h₁.mono fun ov g₂ h₂ => TW.bind (TW.holding (h₂.mono fun iv g₃ h₃ => TW.bind (TW.standAt (TW.bind (TW.holding (h₃.mono fun _ g₄ q => TW.release (BW.pure q))))))))))
theorem b_AssignAttr {o : Expr} {at' : Str} {pos' pos : Pos} {e : Expr} (he : EnvOk c env) (h : TW c (Fm.fr env ρ) A (eval e env) g (fun v g₁ => TW c (Fm.fr env ρ) A (eval o env) g₁ (fun ov g₂ => TW c (Fm.fr env ρ) A (setAttr ov at' v) g₂ (fun _ g₄ => Q .next ρ g₄))))
    (hs : swapsWith e (some (.Attribute o at' pos')) pos.line env = Pure.pure false := by rfl) : BW c env A (exec (.Assign [.Attribute o at' pos'] e pos) env) ρ g Q := by
  rw [plainObj_exec_Assign_Attribute o at' pos' e pos hs]
  refine BW.bind he (BW.standAt (BW.bindT he (h.mono fun v g₁ h₁ => ?_)))
  show BW c env A (do
    (do let ov ← PySem.holding [v] (eval o env)
        PySem.standAt pos'.atName
        PySem.holding [v, ov] (setAttr ov at' v)
        PySem.release [v, ov] [] : Sem Unit)
    Pure.pure .next) ρ g₁ Q
  exact BW.bindT he (TW.bind (TW.holding (h₁.mono fun ov g₂ h₂ => TW.bind (TW.standAt (TW.bind (TW.holding (h₂.mono fun _ g₄ q => TW.release (BW.pure q))))))))

/-! while -/
theorem b_While {t : Expr} {body orelse : List Stmt} {pos : Pos} (he : EnvOk c env) (I : Nat → Rho → GH → Prop)
    (turn : ∀ n ρ g, I n ρ g → TW c (Fm.fr env ρ) A (isTrue t env (eval t env)) g (fun z g₁ => if z then BW c env A (execs body env) ρ g₁ (fun f ρ' g' => match f with
        | .next | .cont => ∃ m, m < n ∧ I m ρ' g'
        | .brk => Q .next ρ' g'
        | .ret v => Q (.ret v) ρ' g') else BW c env A (execs orelse env) ρ g₁ Q))
    (n : Nat) (h : I n ρ g) : BW c env A (exec (.While t body orelse pos) env) ρ g Q := fun s hb hf hh => by
  refine wpAny_While (codeAny_whileLoop (fun n s' => ∃ ρ' g', BaseOk c s'.heap g' ∧ (Fm.fr env ρ').p s'.heap g' ∧ Has c g' s'.heap ∧ StepO c env s g s' g' ∧ I n ρ' g') ?_ n ⟨ρ, g, hb, hf, hh, (Step.refl hh).o, h⟩)
  rintro n s' ⟨ρ', g', hb', hf', hh', st, hI⟩
  refine wpAny_mono (turn n ρ' g' hI s' hb' hf' hh') (fun z s₂ q => ?_) (fun _ _ q => q.elim)
  obtain ⟨g₁, st₁, q⟩ := q
  have hf₁ := (Fm.fr env ρ').st _ _ _ _ st₁.out hf'
  cases z with
  | true =>
    refine wpAny_mono (q s₂ (hb'.step st₁) hf₁ st₁.has) (fun f s₃ r => ?_) (fun _ _ q => q.elim)
    obtain ⟨ρ₃, g₃, hf₃, st₃, r⟩ := r
    have stt := (st.trans st₁.o).trans st₃
    cases f with
    | next => obtain ⟨m, hm, hI'⟩ := r; exact ⟨m, hm, ρ₃, g₃, (hb'.step st₁).stepO he st₃, hf₃, st₃.has, stt, hI'⟩
    | cont => obtain ⟨m, hm, hI'⟩ := r; exact ⟨m, hm, ρ₃, g₃, (hb'.step st₁).stepO he st₃, hf₃, st₃.has, stt, hI'⟩
    | brk => exact ⟨ρ₃, g₃, hf₃, stt, r⟩
    | ret v => exact ⟨ρ₃, g₃, hf₃, stt, r⟩
  | false =>
    refine wpAny_mono (q s₂ (hb'.step st₁) hf₁ st₁.has) (fun f s₃ r => ?_) (fun _ _ q => q.elim)
    obtain ⟨ρ₃, g₃, hf₃, st₃, r⟩ := r
    exact ⟨ρ₃, g₃, hf₃, (st.trans st₁.o).trans st₃, r⟩
end
end
-- part G7
section
/-! ## Iterators -/
structure StepI (c : Cx) (fp : Addr → Prop) (s : Shared) (g : GH) (s' : Shared) (g' : GH) : Prop where
  has : Has c g' s'.heap
  out : ∀ b o, s.heap.get? b = some o → g b = none → ¬ fp b → s'.heap.get? b = some o ∧ g' b = none
  off : ∀ b, fp b → g' b = none
  os : s'.os = s.os
  gens : s'.gens = s.gens

structure Iter (c : Cx) (A : Around) (target : Expr) (I : Addr) (fp : Addr → Prop) (n : Nat) (St : Nat → Heap → Prop) (Pre : GH → Prop) (Item : Nat → Value → GH → GH → Prop) : Prop where
  frame : ∀ i h h', St i h → (∀ b, fp b → ∀ o, h.get? b = some o → h'.get? b = some o) → St i h'
  alive : ∀ i h, St i h → ∀ b, fp b → ∃ o, h.get? b = some o
  item : ∀ i g (s : Shared), i < n → St i s.heap → Has c g s.heap → (∀ b, fp b → g b = none) → Pre g →
    wpAny c.M A (pyNext (.ref I)) (fun r s₁ => ∃ v, r = some v ∧ wpAny c.M A (letOwnedTupleGo target (.ref I) v) (fun _ s₂ => ∃ g₂, StepI c fp s g s₂ g₂ ∧ St (i + 1) s₂.heap ∧ Item i v g g₂) (fun _ _ => False) s₁) (fun _ _ => False) s
  done : ∀ g (s : Shared), St n s.heap → Has c g s.heap → (∀ b, fp b → g b = none) → Pre g → wpAny c.M A (pyNext (.ref I)) (fun r s₁ => r = none ∧ StepI c fp s g s₁ g) (fun _ _ => False) s
  self : ∀ i (s : Shared) (Q : Value → Shared → Prop), St i s.heap → Q (.ref I) s → wpAny c.M A (pyIter (.ref I)) Q (fun _ _ => False) s

noncomputable def Iterable (c : Cx) (A : Around) (target : Expr) (x : Value) (g g' : GH) (n : Nat) (Pre : GH → Prop) (Item : Nat → Value → GH → GH → Prop) : Prop :=
  ∀ s : Shared, BaseOk c s.heap g → Has c g s.heap → wpAny c.M A (pyIter x) (fun v s' => ∃ I fp St, v = .ref I ∧ Iter c A target I fp n St Pre Item ∧ St 0 s'.heap ∧
    (∀ b, fp b → (s.heap.get? b = none ∨ g b ≠ none) ∧ g' b = none) ∧ Step c s g s' g') (fun _ _ => False) s

/-- the loop over a value in hand -/
noncomputable def ForV (c : Cx) (env : Env) (A : Around) (target : Expr) (x : Value) (body : List Stmt) (ρ : Rho) (g : GH) (Q : Flow → Rho → GH → Prop) : Prop :=
  ∀ s : Shared, BaseOk c s.heap g → (Fm.fr env ρ).p s.heap g → Has c g s.heap → wpAny c.M A (pyIter x) (fun it s₂ => codeAny c.M A (.forLoop target it body [] env)
    (fun r s' => match r with | .ok f => ∃ ρ' g', (Fm.fr env ρ').p s'.heap g' ∧ StepO c env s g s' g' ∧ Q f ρ' g' | .error _ => False) s₂) (fun _ _ => False) s

section
variable {c : Cx} {A : Around} {g : GH} {env : Env} {ρ : Rho} {Q : Flow → Rho → GH → Prop}

theorem b_For {target iter : Expr} {body : List Stmt} {pos : Pos} (he : EnvOk c env) (h : TW c (Fm.fr env ρ) A (eval iter env) g (fun x g₁ => ForV c env A target x body ρ g₁ Q)) (hs : ∀ x, foldedSetIterable iter env x = Pure.pure x := by intro _; rfl) :
    BW c env A (exec (.For target iter body [] pos) env) ρ g Q := fun s hb hf hh =>
  wpAny_For (wpAny_mono (h s hb hf hh) (fun x s₁ ⟨g₁, st, q⟩ => wpAny_mono (q s₁ (hb.step st) ((Fm.fr env ρ).st _ _ _ _ st.out hf) st.has) (fun it s₂ r => codeAny_mono r fun r s' z => by
    cases r with
    | ok f => obtain ⟨ρ', g', a, b, d⟩ := z; exact ⟨ρ', g', a, st.o.trans b, d⟩
    | error e => exact z.elim) (fun _ _ z => z.elim)) (fun _ _ z => z.elim)) hs

theorem forV_of {target : Expr} {x : Value} {body : List Stmt} {n : Nat} {Pre : GH → Prop} {Item : Nat → Value → GH → GH → Prop} {g' : GH} (he : EnvOk c env) (X : Iterable c A target x g g' n Pre Item) (Inv : Nat → Rho → GH → Prop)
    (hPre : ∀ i ρ g, Inv i ρ g → Pre g) (h0 : Inv 0 ρ g')
    (turn : ∀ i v ρ g g₂, i < n → Inv i ρ g → Item i v g g₂ → BW c env A (assign target env v) ρ g₂ (fun _ ρ₁ g₁ => BW c env A (execs body env) ρ₁ g₁ (fun f ρ' g' => match f with
      | .next | .cont => Inv (i + 1) ρ' g'
      | .brk => Q .next ρ' g'
      | .ret v => Q (.ret v) ρ' g')))
    (fin : ∀ ρ g, Inv n ρ g → Q .next ρ g) : ForV c env A target x body ρ g Q := fun s hb hf hh => by
  refine wpAny_mono (X s hb hh) (fun v s₂ q => ?_) (fun _ _ z => z.elim)
  obtain ⟨I, fp, St, rfl, W, hst, hfp, st⟩ := q
  have noOwn : ∀ b, fp b → ¬ Fp env b := fun b h1 h2 => by
    rcases (hfp b h1).1 with e | e
    · obtain ⟨o, e'⟩ := (hf.2 b h2).2; rw [e] at e'; cases e'
    · exact e (hf.2 b h2).1
  have noBase : ∀ b, fp b → c.B.get? b = none := fun b h1 => by
    cases q : c.B.get? b with
    | none => rfl
    | some o =>
      rcases (hfp b h1).1 with e | e
      · have := (hb b o q).1; rw [e] at this; cases this
      · exact absurd (hb b o q).2 e
  refine codeAny_forLoop_any (fun k s' => ∃ i ρ' g₁, i ≤ n ∧ k = n - i ∧ St i s'.heap ∧ (∀ b, fp b → g₁ b = none) ∧ BaseOk c s'.heap g₁ ∧ (Fm.fr env ρ').p s'.heap g₁ ∧ Has c g₁ s'.heap ∧ StepO c env s g s' g₁ ∧ Inv i ρ' g₁) ?_ n
    ⟨0, ρ, g', Nat.zero_le _, rfl, hst, fun b q => (hfp b q).2, hb.step st, (Fm.fr env ρ).st _ _ _ _ st.out hf, st.has, st.o, h0⟩
  rintro k s₃ ⟨i, ρ₃, g₃, hi, rfl, hst₃, hoff, hb₃, hf₃, hh₃, st₃, hI⟩
  by_cases hlt : i < n
  · refine wpAny_mono (W.item i g₃ s₃ hlt hst₃ hh₃ hoff (hPre _ _ _ hI)) (fun r s₄ q => ?_) (fun _ _ z => z.elim)
    obtain ⟨v, rfl, q⟩ := q
    refine wpAny_mono q (fun _ s₅ q => ?_) (fun _ _ z => z.elim)
    obtain ⟨g₅, st₅, hst₅, hitem⟩ := q
    have hb₅ : BaseOk c s₅.heap g₅ := fun b o e => st₅.out b o (hb₃ b o e).1 (hb₃ b o e).2 fun q => by rw [noBase b q] at e; cases e
    have hf₅ : (Fm.fr env ρ₃).p s₅.heap g₅ := ⟨hf₃.1.keep fun b o ob e => (st₅.out b o e (hf₃.2 b ob).1 fun q => noOwn b q ob).1, fun b ob => by
      obtain ⟨n1, o, e⟩ := hf₃.2 b ob
      have := st₅.out b o e n1 fun q => noOwn b q ob
      exact ⟨this.2, o, this.1⟩⟩
    refine wpAny_mono (turn i v ρ₃ g₃ g₅ hlt hI hitem s₅ hb₅ hf₅ st₅.has) (fun _ s₆ q => ?_) (fun _ _ z => z.elim)
    obtain ⟨ρ₆, g₆, hf₆, st₆, q⟩ := q
    refine wpAny_mono (q s₆ (hb₅.stepO he st₆) hf₆ st₆.has) (fun f s₇ q => ?_) (fun _ _ z => z.elim)
    obtain ⟨ρ₇, g₇, hf₇, st₇, q⟩ := q
    have stt := st₆.trans st₇
    have all : StepO c env s g s₇ g₇ := ⟨st₇.has, fun b o e n1 nb => by
      have nf : ¬ fp b := fun q => by
        rcases (hfp b q).1 with e' | e'
        · rw [e'] at e; cases e
        · exact e' n1
      obtain ⟨e3, n3⟩ := st₃.out b o e n1 nb
      obtain ⟨e5, n5⟩ := st₅.out b o e3 n3 nf
      exact stt.out b o e5 n5 nb, by rw [stt.os, st₅.os, st₃.os], by rw [stt.gens, st₅.gens, st₃.gens]⟩
    have hst₇ : St (i + 1) s₇.heap ∧ ∀ b, fp b → g₇ b = none := by
      have k : ∀ b, fp b → ∀ o, s₅.heap.get? b = some o → s₇.heap.get? b = some o ∧ g₇ b = none := fun b q o e => stt.out b o e (st₅.off b q) fun z => noOwn b q z.fp
      exact ⟨W.frame _ _ _ hst₅ fun b q o e => (k b q o e).1, fun b q => by obtain ⟨o, e⟩ := W.alive _ _ hst₅ b q; exact (k b q o e).2⟩
    have good : Inv (i + 1) ρ₇ g₇ → ∃ m, m < n - i ∧ ∃ i' ρ' g₁, i' ≤ n ∧ m = n - i' ∧ St i' s₇.heap ∧ (∀ b, fp b → g₁ b = none) ∧ BaseOk c s₇.heap g₁ ∧ (Fm.fr env ρ').p s₇.heap g₁ ∧ Has c g₁ s₇.heap ∧ StepO c env s g s₇ g₁ ∧ Inv i' ρ' g₁ := fun hI' =>
      ⟨n - (i + 1), by lia, i + 1, ρ₇, g₇, by lia, rfl, hst₇.1, hst₇.2, (hb₅.stepO he st₆).stepO he st₇, hf₇, st₇.has, all, hI'⟩
    cases f with
    | next => exact good q
    | cont => exact good q
    | brk => exact ⟨ρ₇, g₇, hf₇, all, q⟩
    | ret v => exact ⟨ρ₇, g₇, hf₇, all, q⟩
  · have hin : i = n := by lia
    subst hin
    refine wpAny_mono (W.done g₃ s₃ hst₃ hh₃ hoff (hPre _ _ _ hI)) (fun r s₄ q => ?_) (fun _ _ z => z.elim)
    obtain ⟨rfl, st₄⟩ := q
    refine wpAny_execs_nil ⟨ρ₃, g₃, ?_, ?_, fin _ _ hI⟩
    · exact ⟨hf₃.1.keep fun b o ob e => (st₄.out b o e (hf₃.2 b ob).1 fun q => noOwn b q ob).1, fun b ob => by
        obtain ⟨n1, o, e⟩ := hf₃.2 b ob
        have := st₄.out b o e n1 fun q => noOwn b q ob
        exact ⟨this.2, o, this.1⟩⟩
    · exact ⟨st₄.has, fun b o e n1 nb => by
        have nf : ¬ fp b := fun q => by
          rcases (hfp b q).1 with e' | e'
          · rw [e'] at e; cases e
          · exact e' n1
        obtain ⟨e3, n3⟩ := st₃.out b o e n1 nb
        exact st₄.out b o e3 n3 nf, by rw [st₄.os, st₃.os], by rw [st₄.gens, st₃.gens]⟩
end

/-! lists -/
section
variable {c : Cx} {A : Around} {g : GH}

theorem letOwned_list {target : Expr} {I l : Addr} {i : Nat} {v : Value} {s : Shared} {Q : Unit → Shared → Prop} {E : Value → Shared → Prop} (hit : s.heap.IsListIter I l i) (h : Q () s) : wpAny c.M A (letOwnedTupleGo target (.ref I) v) Q E s := by
  obtain ⟨o, ho, hc, hd⟩ := id hit
  unfold letOwnedTupleGo
  split <;> first | exact wpAny_pure h | skip
  all_goals
    cases v <;> first | exact wpAny_pure h | skip
    refine wpAny_bind (wpAny_load ho ?_)
    rw [hc, hd]
    dsimp only
    rw [if_neg (by rw [show (["enumerate", "zip", "dict_itemiterator", "dict_reverseitemiterator", "odict_iterator", "itertools.zip_longest", "itertools.pairwise"].contains "list_iterator") = false from by decide]; simp)]
    exact wpAny_pure h

theorem StepI.of_ext {s : Shared} {h' : Heap} {tk : Nat} {I : Addr} (hh : Has c g s.heap) (hI : g I = none) (hx : Heap.ExtBut I s.heap h') : StepI c (fun b => b = I) s g { s with heap := h', toks := tk } g :=
  ⟨fun b ao e => RepH.keep (hh b ao e) fun o e' => hx b o (by rintro rfl; rw [hI] at e; cases e) e', fun b o e n nf => ⟨hx b o nf e, n⟩, fun b e => by rw [e]; exact hI, rfl, rfl⟩

theorem isIter_keep {h h' : Heap} {I l : Addr} {i : Nat} (x : h.IsListIter I l i) (k : ∀ o, h.get? I = some o → h'.get? I = some o) : h'.IsListIter I l i := let ⟨o, e, r⟩ := x; ⟨o, k _ e, r⟩

theorem iter_list (hA : A.handled = none) {target : Expr} {l : Addr} {vs : List Value} (hl : g l = some (.lst vs)) : Iterable c A target (.ref l) g g vs.length (fun g => g l = some (.lst vs)) (fun i v g g₂ => vs[i]? = some v ∧ g₂ = g) := fun s hb hh => by
  refine wpAny_pyIter_list (RepH.isList (hh l _ hl)) ⟨s.heap.objs.size, fun b => b = s.heap.objs.size, fun i h => h.IsListIter s.heap.objs.size l i, rfl, ?_, ⟨_, Heap.get?_push_size _ rfl, rfl, rfl⟩,
    fun b e => by subst e; exact ⟨.inl (get_size_none _), hh.fresh (get_size_none _)⟩, Step.junk (tk := s.toks) hh fun b o e => Heap.get?_push_of_some _ e⟩
  generalize s.heap.objs.size = I
  exact {
    frame := fun i h h' st k => isIter_keep st (k I rfl)
    alive := fun i h st b e => by subst e; obtain ⟨o, e, _⟩ := st; exact ⟨o, e⟩
    item := fun i g s hi st hh hoff hp => by
      have hL := RepH.isList (hh l _ hp)
      refine wpAny_pyNext_list_item st hL (x := vs[i]) (by simp [hi]) fun h' hit hs => ⟨_, rfl, letOwned_list (s := { s with heap := h' }) hit ⟨g, StepI.of_ext (tk := s.toks) hh (hoff I rfl) hs.extBut, hit, by simp [hi], rfl⟩⟩
    done := fun g s st hh hoff hp => wpAny_pyNext_list_end hA st (RepH.isList (hh l _ hp)) (by simp) fun h' hx => ⟨rfl, StepI.of_ext (tk := s.toks) hh (hoff I rfl) hx⟩
    self := fun i s Q st h => wpAny_pyIter_listiter st h }

/-! ranges -/
noncomputable def rangeObj (a b : Int) (t u v : Tok) : Obj := { cls := .type "range", data := .fields #[.int a t, .int b u, .int 1 v] }
theorem o_range1 {b : Int} {t : Tok} {Q : Value → GH → Prop} {F : Fm} (h : ∀ r t u v, g r = none → Q (.ref r) (upd g r (.raw (rangeObj 0 b t u v)))) : TW c F A (call (.type "range") [.int b t]) g Q := fun s hb hf hh =>
  PySem.call_range_1 ⟨_, Step.new (ao := .raw (rangeObj 0 b s.toks t (s.toks + 1))) hh (get_size_none _) (fun _ _ e => Heap.get?_push_of_some _ e) (Heap.get?_push_size _ rfl), h _ _ _ _ (Has.fresh hh (get_size_none _))⟩
theorem o_range2 {a b : Int} {t u : Tok} {Q : Value → GH → Prop} {F : Fm} (h : ∀ r t u v, g r = none → Q (.ref r) (upd g r (.raw (rangeObj a b t u v)))) : TW c F A (call (.type "range") [.int a t, .int b u]) g Q := fun s hb hf hh =>
  PySem.call_range_2 ⟨_, Step.new (ao := .raw (rangeObj a b t u s.toks)) hh (get_size_none _) (fun _ _ e => Heap.get?_push_of_some _ e) (Heap.get?_push_size _ rfl), h _ _ _ _ (Has.fresh hh (get_size_none _))⟩

theorem rangeSize_one {a b : Int} : Builtin.Range.rangeSize a b 1 = if a < b then b - a else 0 := by
  unfold Builtin.Range.rangeSize
  rw [if_pos (by decide)]
  split <;> lia
theorem small_one {a b : Int} (h1 : -(2 ^ 62) ≤ a) (h2 : a < 2 ^ 62) (h3 : -(2 ^ 62) ≤ b) (h4 : b < 2 ^ 62) : Builtin.Range.small a b 1 = true := by
  unfold Builtin.Range.small Builtin.Range.rangeFitsLong
  rw [rangeSize_one]
  simp only [Bool.and_eq_true, decide_eq_true_eq, Bool.or_eq_true, beq_iff_eq]
  refine ⟨⟨⟨⟨?_, ?_⟩, ?_⟩, ?_⟩, .inr ?_⟩ <;> first | (rw [if_pos (by decide)]; simp; lia) | (split <;> lia) | lia

theorem letOwned_other {target : Expr} {I : Addr} {o : Obj} {T : String} {vs : Array Value} {v : Value} {s : Shared} {Q : Unit → Shared → Prop} {E : Value → Shared → Prop} (ho : s.heap.get? I = some o) (hc : o.cls = .type T) (hd : o.data = .fields vs)
    (hT : (["enumerate", "zip", "dict_itemiterator", "dict_reverseitemiterator", "odict_iterator", "itertools.zip_longest", "itertools.pairwise"].contains T) = false) (h : Q () s) : wpAny c.M A (letOwnedTupleGo target (.ref I) v) Q E s := by
  unfold letOwnedTupleGo
  split <;> first | exact wpAny_pure h | skip
  all_goals
    cases v <;> first | exact wpAny_pure h | skip
    refine wpAny_bind (wpAny_load ho ?_)
    rw [hc, hd]
    dsimp only
    rw [if_neg (by rw [hT]; simp)]
    exact wpAny_pure h

theorem iter_range (hA : A.handled = none) {target : Expr} {r : Addr} {a b : Int} {t u v : Tok} (hr : g r = some (.raw (rangeObj a b t u v))) (h1 : -(2 ^ 62) ≤ a) (h2 : a < 2 ^ 62) (h3 : -(2 ^ 62) ≤ b) (h4 : b < 2 ^ 62) :
    Iterable c A target (.ref r) g g (b - a).toNat (fun _ => True) (fun i v g g₂ => (∃ t, v = .int (a + i) t) ∧ g₂ = g) := fun s hb hh => by
  refine wpAny_pyIter_range (hh r _ hr) (small_one h1 h2 h3 h4) ⟨s.heap.objs.size, fun b => b = s.heap.objs.size, fun i h => IsRangeIter h s.heap.objs.size (a + i) (((b - a).toNat : Int) - i) 1, rfl, ?_, ?_,
    fun b e => by subst e; exact ⟨.inl (get_size_none _), hh.fresh (get_size_none _)⟩, Step.junk (tk := s.toks) hh fun b o e => Heap.get?_push_of_some _ e⟩
  · generalize s.heap.objs.size = I
    exact {
      frame := fun i h h' st k => k I rfl _ st
      alive := fun i h st b e => by subst e; exact ⟨_, st⟩
      item := fun i g s hi st hh hoff hp => by
        refine wpAny_pyNext_range_item st (by lia) fun h' hit hs => ⟨_, rfl, letOwned_other (s := { s with heap := h', toks := s.toks + 1 }) hit rfl rfl (by decide) ⟨g, StepI.of_ext (tk := s.toks + 1) hh (hoff I rfl) hs.extBut, ?_, ⟨_, rfl⟩, rfl⟩⟩
        have e1 : a + ((i + 1 : Nat) : Int) = a + i + 1 := by lia
        have e2 : (((b - a).toNat : Int) - ((i + 1 : Nat) : Int)) = ((b - a).toNat : Int) - i - 1 := by lia
        show IsRangeIter h' I (a + ((i + 1 : Nat) : Int)) (((b - a).toNat : Int) - ((i + 1 : Nat) : Int)) 1
        rw [e1, e2]; exact hit
      done := fun g s st hh hoff hp => wpAny_pyNext_range_end hA st (by lia) fun h' hx => ⟨rfl, StepI.of_ext (tk := s.toks) hh (hoff I rfl) hx⟩
      self := fun i s Q st h => by first | exact wpAny_pyIter_rangeiter st h | exact PySem.wpAny_pyIter_rangeiter st h }
  · have e : Builtin.Range.rangeSize a b 1 = (((b - a).toNat : Int) - (0 : Nat)) := by rw [rangeSize_one]; split <;> lia
    show IsRangeIter _ _ (a + (0 : Nat)) (((b - a).toNat : Int) - (0 : Nat)) 1
    rw [← e]
    have : a + ((0 : Nat) : Int) = a := by lia
    rw [this]
    exact Heap.get?_push_size _ rfl

/-! dicts keyed by ints -/
theorem iter_dict (hA : A.handled = none) {target : Expr} {d : Addr} {kvs : List (Int × Value)} {ep : Nat} (hd : g d = some (.dic kvs ep)) :
    Iterable c A target (.ref d) g g kvs.length (fun g => g d = some (.dic kvs ep)) (fun i v g g₂ => (∃ k x t, kvs[i]? = some (k, x) ∧ v = .int k t) ∧ g₂ = g) := fun s hb hh => by
  obtain ⟨hD, hm⟩ := hh d _ hd
  refine wpAny_pyIter_dict hm hD ⟨s.heap.objs.size, fun b => b = s.heap.objs.size, fun i h => h.IsKeyIter s.heap.objs.size d i kvs.length ep, rfl, ?_, ⟨_, Heap.get?_push_size _ rfl, rfl, rfl⟩,
    fun b e => by subst e; exact ⟨.inl (get_size_none _), hh.fresh (get_size_none _)⟩, Step.junk (tk := s.toks) hh fun b o e => Heap.get?_push_of_some _ e⟩
  generalize s.heap.objs.size = I
  exact {
    frame := fun i h h' st k => let ⟨o, e, r⟩ := st; ⟨o, k I rfl _ e, r⟩
    alive := fun i h st b e => by subst e; obtain ⟨o, e, _⟩ := st; exact ⟨o, e⟩
    item := fun i g s hi st hh hoff hp => by
      obtain ⟨hD, hm⟩ := hh d _ hp
      refine wpAny_pyNext_dict_item st hD (k := kvs[i].1) (v := kvs[i].2) (by simp [hi]) fun key h' hk hit hs => ⟨_, rfl, ?_⟩
      obtain ⟨t, rfl⟩ := Value.isInt_shape hk
      obtain ⟨o, e, hc, hd⟩ := id hit
      exact letOwned_other (s := { s with heap := h' }) e hc hd (by decide) ⟨g, StepI.of_ext (tk := s.toks) hh (hoff I rfl) hs.extBut, hit, ⟨_, _, _, by simp [hi]; rfl, rfl⟩, rfl⟩
    done := fun g s st hh hoff hp => by
      obtain ⟨hD, hm⟩ := hh d _ hp
      exact wpAny_pyNext_dict_end hA st hD (by simp) fun h' hx => ⟨rfl, StepI.of_ext (tk := s.toks) hh (hoff I rfl) hx⟩
    self := fun i s Q st h => by first | exact wpAny_pyIter_keyiter st h | exact PySem.wpAny_pyIter_keyiter st h }
end
end
-- part G8
section
/-! ## Comprehensions -/
noncomputable def freeOf (cells : List (Str × Addr)) : List (Str × NameKind) → List (Str × Addr) → List (Str × Addr)
  | [], acc => acc
  | (n, k) :: r, acc => if k == .free then freeOf cells r ((n, (cells.lookup n).getD 0) :: acc) else freeOf cells r acc

theorem closure_go {env : Env} : ∀ (names : List (Str × NameKind)) (acc : List (Str × Addr)), (names.all fun p => p.2 != .free || (env.cells.lookup p.1).isSome) = true →
    forIn names acc (fun x cs => match x with | (name, kind) => if kind == .free then (do let a ← cellOf env name; Pure.pure (ForInStep.yield ((name, a) :: cs))) else Pure.pure (ForInStep.yield cs) : (Str × NameKind) → List (Str × Addr) → Sem (ForInStep (List (Str × Addr)))) = Pure.pure (freeOf env.cells names acc)
  | [], acc, _ => by rw [List.forIn_nil]; rfl
  | (n, k) :: r, acc, h => by
    rw [List.all_cons, Bool.and_eq_true] at h
    rw [List.forIn_cons]
    unfold freeOf
    by_cases hk : (k == NameKind.free) = true
    · have h1 := h.1
      have hk' := beq_iff_eq.mp hk
      subst hk'
      simp only [bne_self_eq_false, Bool.false_or] at h1
      obtain ⟨a, ha⟩ := Option.isSome_iff_exists.mp h1
      simp only [hk, if_true, cellOf, ha, pure_bind, Option.getD_some]
      exact closure_go r _ h.2
    · simp only [hk, if_false, pure_bind]
      exact closure_go r _ h.2
theorem closure_is {env : Env} {scope : Scope} (h : (scope.names.all fun p => p.2 != .free || (env.cells.lookup p.1).isSome) = true) : closureFor scope env = Pure.pure (freeOf env.cells scope.names []) := by
  have e := closure_go (env := env) scope.names [] h
  show (forIn scope.names [] (fun x cs => match x with | (name, kind) => if kind == .free then (do let a ← cellOf env name; Pure.pure (ForInStep.yield ((name, a) :: cs))) else Pure.pure (ForInStep.yield cs) : (Str × NameKind) → List (Str × Addr) → Sem (ForInStep (List (Str × Addr)))) >>= fun r => (Pure.pure r : Sem (List (Str × Addr)))) = _
  rw [e]; rfl

noncomputable def freeNames (scope : Scope) : List Str := (scope.names.filter fun p => p.2 == .free).map (·.1)
noncomputable def compOk (scope : Scope) (env : Env) : Bool := scope.kind == .function && (scope.names.all fun p => p.2 != .free || ((env.cells.lookup p.1).isSome && scope.names.lookup p.1 == some .free)) &&
  (scope.names.all fun p => p.2 != .local || scope.names.lookup p.1 == some .local) && (scope.names.all fun p => p.2 != .cell) && decide (freeNames scope).Nodup

theorem freeOf_mem {cells : List (Str × Addr)} : ∀ (names : List (Str × NameKind)) (acc : List (Str × Addr)) (p : Str × Addr), p ∈ freeOf cells names acc → p ∈ acc ∨ ((p.1, NameKind.free) ∈ names ∧ p.2 = (cells.lookup p.1).getD 0)
  | [], acc, p, h => .inl h
  | (n, k) :: r, acc, p, h => by
    unfold freeOf at h
    split at h
    · rename_i hk
      have hk' := beq_iff_eq.mp hk
      subst hk'
      rcases freeOf_mem r _ p h with q | ⟨q1, q2⟩
      · rcases List.mem_cons.mp q with e | q
        · subst e; exact .inr ⟨List.mem_cons_self, rfl⟩
        · exact .inl q
      · exact .inr ⟨List.mem_cons_of_mem _ q1, q2⟩
    · rcases freeOf_mem r _ p h with q | ⟨q1, q2⟩
      · exact .inl q
      · exact .inr ⟨List.mem_cons_of_mem _ q1, q2⟩
theorem freeOf_names {cells : List (Str × Addr)} : ∀ (names : List (Str × NameKind)) (acc : List (Str × Addr)), (freeOf cells names acc).map (·.1) = ((names.filter fun p => p.2 == .free).map (·.1)).reverse ++ acc.map (·.1)
  | [], acc => by simp [freeOf]
  | (n, k) :: r, acc => by
    unfold freeOf
    split
    · rename_i hk
      rw [freeOf_names r, List.filter_cons, if_pos (by exact hk)]
      simp
    · rename_i hk
      rw [freeOf_names r, List.filter_cons, if_neg (by exact hk)]

noncomputable def cenvOf (scope : Scope) (C : Addr) (env : Env) : Env := compEnvC scope (freeOf env.cells scope.names []) C env
noncomputable def maskρ (cenv : Env) (ρ : Rho) : Rho := fun y => if cenv.kindOf y = some .local then none else ρ y

theorem relabel_lookup {env : Env} {x : Str} : ∀ {names : List (Str × NameKind)}, names.lookup x = some .free →
    (names.map fun (n, k) => if (k == NameKind.free && env.scope.kind == .function && env.kindOf n == some .cell) then (n, NameKind.cell) else (n, k)).lookup x ≠ some .local
  | [], h => by cases h
  | (n, k) :: r, h => by
    have ih := @relabel_lookup env x r
    show List.lookup x ((if (k == NameKind.free && env.scope.kind == .function && env.kindOf n == some .cell) = true then (n, NameKind.cell) else (n, k)) :: _) ≠ _
    rw [List.lookup_cons] at h
    cases hx : x == n with
    | true =>
      rw [hx] at h
      cases h
      split <;> simp [List.lookup_cons, hx]
    | false =>
      rw [hx] at h
      split <;> (simp only [List.lookup_cons, hx]; exact ih h)

theorem cenv_ok {c : Cx} {env : Env} {scope : Scope} {C : Addr} (he : EnvOk c env) (hk : compOk scope env = true) (hC : ∀ b, Fp env b → b ≠ C) (hCB : c.B.get? C = none) : EnvOk c (cenvOf scope C env) ∧ ∀ p ∈ (cenvOf scope C env).cells, p ∈ env.cells := by
  unfold compOk at hk
  simp only [Bool.and_eq_true, beq_iff_eq, decide_eq_true_eq] at hk
  obtain ⟨⟨⟨⟨k1, k2⟩, k3⟩, k4⟩, k5⟩ := hk
  have sub : ∀ p ∈ (cenvOf scope C env).cells, p ∈ env.cells ∧ scope.names.lookup p.1 = some .free := fun p hp => by
    rcases freeOf_mem _ _ p hp with q | ⟨q1, q2⟩
    · cases q
    · have := List.all_eq_true.mp k2 _ q1
      simp only [bne_self_eq_false, Bool.false_or, Bool.and_eq_true, beq_iff_eq] at this
      obtain ⟨a, ha⟩ := Option.isSome_iff_exists.mp this.1
      rw [ha] at q2
      obtain ⟨p1, p2⟩ := p
      cases q2
      exact ⟨mem_of_lookup ha, this.2⟩
  have nod : ((cenvOf scope C env).cells.map (·.1)).Nodup := by
    show ((freeOf env.cells scope.names []).map (·.1)).Nodup
    rw [freeOf_names]
    simpa [freeNames, List.Nodup, List.pairwise_reverse, ne_comm] using k5
  refine ⟨{
    kind := by show scope.kind = _; exact k1
    glob := he.glob
    blt := he.blt
    apart := ?_
    locs := fun x a h => hC a (.inr ⟨x, (sub _ h).1⟩)
    base := fun b hb => by
      rcases hb with rfl | ⟨x, hx⟩
      · exact hCB
      · exact he.base b (.inr ⟨x, (sub _ hx).1⟩)
    ckind := fun x a h => relabel_lookup (sub _ h).2
    cnod := nod }, fun p hp => (sub p hp).1⟩
  have : ∀ (l : List (Str × Addr)), (l.map (·.1)).Nodup → (∀ p ∈ l, p ∈ env.cells) → l.Pairwise fun x y => x.2 ≠ y.2 := by
    intro l
    induction l with
    | nil => intro _ _; exact List.Pairwise.nil
    | cons p r ih =>
      intro hn hm
      rw [List.map_cons, List.nodup_cons] at hn
      refine List.Pairwise.cons (fun q hq e => ?_) (ih hn.2 fun q hq => hm q (List.mem_cons_of_mem _ hq))
      have h1 := hm p List.mem_cons_self
      have h2 := hm q (List.mem_cons_of_mem _ hq)
      have : p.1 = q.1 := name_of_addr he.apart (c := p.2) h1 (by rw [e]; exact h2)
      exact hn.1 (by rw [this]; exact List.mem_map.mpr ⟨q, hq, rfl⟩)
  exact this _ nod fun p hp => (sub p hp).1

/-- one turn of a comprehension -/
noncomputable def CompTurn (c : Cx) (A : Around) (env : Env) (scope : Scope) (target elt : Expr) (ρ : Rho) (v : Value) (g : GH) (K : Value → GH → Prop) : Prop :=
  ∀ C, EnvOk c (cenvOf scope C env) → BW c (cenvOf scope C env) A (assign target (cenvOf scope C env) v) (maskρ (cenvOf scope C env) ρ) g (fun _ ρ₁ g₁ => TW c (Fm.fr (cenvOf scope C env) ρ₁) A (eval elt (cenvOf scope C env)) g₁ K)

section
variable {c : Cx} {A : Around} {g : GH} {env : Env} {ρ : Rho}

theorem comp_core {elt target iter : Expr} {scope : Scope} {pos : Pos} {I : Addr} {fp : Addr → Prop} {n : Nat} {St : Nat → Heap → Prop} {Pre : GH → Prop} {Item : Nat → Value → GH → GH → Prop} {RR : Value → Addr → Result → Shared → Prop}
    (he : EnvOk c env) (hk : compOk scope env = true) (W : Iter c A target I fp n St Pre Item) (hsz : n ≤ sizeLine) (Inv : Nat → List Value → GH → Prop) (hPre : ∀ i ys g, Inv i ys g → Pre g)
    (turn : ∀ i ys v g g₂, i < n → ys.length = i → Inv i ys g → Item i v g g₂ → CompTurn c A env scope target elt ρ v g₂ (fun y g₄ => Inv (i + 1) (ys ++ [y]) g₄))
    (s : Shared) (hb : BaseOk c s.heap g) (hf : (Fm.fr env ρ).p s.heap g) (hh : Has c g s.heap) (hst : St 0 s.heap) (hfp : ∀ b, fp b → g b = none ∧ ¬ Fp env b ∧ c.B.get? b = none) (h0 : Inv 0 [] g)
    (hRR : ∀ D C (s' : Shared) ys g' m, Inv n ys g' → s.heap.get? D = none → s.heap.get? C = none → D ≠ C → ys.length = n → s'.heap.Ns C m → Has c g' s'.heap → s'.heap.PlainList D ys.toArray → g' D = none → g' C = none →
      (∀ b o, s.heap.get? b = some o → g b = none → ¬ fp b → s'.heap.get? b = some o ∧ g' b = none) → s'.os = s.os → s'.gens = s.gens → RR (.ref D) C (.ok .next) s') :
    wpAny c.M A (newList []) (fun acc s₃ => wpAny c.M A (newFunctionEnv scope env.globals (freeOf env.cells scope.names []) [] env.qual none .none (some env)) (fun cenv s₄ =>
      codeAny c.M A (.compStart (.ListComp elt [⟨target, iter, [], 0⟩] scope pos) 0 (.ref I) acc { cenv with scope := relabel scope env }) (RR acc cenv.locals) s₄) (fun _ _ => False) s₃) (fun _ _ => False) s := by
  have hcell : ∀ y ∈ scope.names, y.2 ≠ .cell := fun y hy => by
    unfold compOk at hk
    simp only [Bool.and_eq_true] at hk
    have := List.all_eq_true.mp hk.1.2 y hy
    simpa using this
  have hkind : scope.kind = .function := by
    unfold compOk at hk
    simp only [Bool.and_eq_true, beq_iff_eq] at hk
    exact hk.1.1.1.1
  refine wpAny_newList ?_ (by simp)
  refine wpAny_newFunctionEnv hcell (by intro y hy; cases hy) (fun h₁ hns₁ hsb₁ => ?_) hkind
  dsimp only at hns₁ hsb₁ ⊢
  generalize hH2 : s.heap.push { cls := .type "list", data := .seq ([] : List Value).toArray } = H2 at hns₁ hsb₁ ⊢
  have hC : H2.objs.size = s.heap.objs.size + 1 := by rw [← hH2, Heap.size_push]
  generalize hCe : H2.objs.size = C at hns₁ hsb₁ ⊢
  generalize hDe : s.heap.objs.size = D
  have hCD : C = D + 1 := by lia
  have hDC : D ≠ C := by lia
  have noD : s.heap.get? D = none := by rw [← hDe]; exact get_size_none _
  have noC : s.heap.get? C = none := get_ge_none (by lia)
  have old : ∀ b o, s.heap.get? b = some o → h₁.get? b = some o := fun b o e => by
    have hb := Heap.lt_size e
    rw [hDe] at hb
    have hc : b ≠ C := by rw [hCD]; exact Nat.ne_of_lt (Nat.lt_succ_of_lt hb)
    exact hsb₁.extBut b o hc (Heap.get?_push_of_some _ (hH2 ▸ Heap.get?_push_of_some _ e))
  have hD₁ : h₁.PlainList D #[] := ⟨0, hsb₁.extBut _ _ hDC (Heap.get?_push_of_some _ (by rw [← hH2, ← hDe]; exact Heap.get?_push_size _ rfl))⟩
  have gD : g D = none := hh.fresh noD
  have gC : g C = none := hh.fresh noC
  have fpOld : ∀ b, fp b → ∃ o, s.heap.get? b = some o := W.alive 0 _ hst
  have fD : ¬ fp D := fun q => by obtain ⟨o, e⟩ := fpOld D q; rw [noD] at e; cases e
  have fC : ¬ fp C := fun q => by obtain ⟨o, e⟩ := fpOld C q; rw [noC] at e; cases e
  have BD : c.B.get? D = none := by
    cases q : c.B.get? D with
    | none => rfl
    | some o => have := (hb D o q).1; rw [noD] at this; cases this
  have BC : c.B.get? C = none := by
    cases q : c.B.get? C with
    | none => rfl
    | some o => have := (hb C o q).1; rw [noC] at this; cases this
  have envC : ∀ b, Fp env b → b ≠ C := fun b ob e => by subst e; obtain ⟨o, e⟩ := (hf.2 _ ob).2; rw [noC] at e; cases e
  have envD : ∀ b, Fp env b → b ≠ D := fun b ob e => by subst e; obtain ⟨o, e⟩ := (hf.2 _ ob).2; rw [noD] at e; cases e
  obtain ⟨hce, hsub⟩ := cenv_ok he hk envC BC
  have ownC : ∀ b, Own (cenvOf scope C env) b → b = C := fun b q => q.elim id fun q => by cases q.1
  have fpC : ∀ b, Fp (cenvOf scope C env) b → b = C ∨ Fp env b := fun b q => q.elim .inl fun ⟨x, hx⟩ => .inr (.inr ⟨x, hsub _ hx⟩)
  have hst₁ : St 0 h₁ := W.frame _ _ _ hst fun b _ o e => old b o e
  have frame0 : FrameAt (cenvOf scope C env) (maskρ (cenvOf scope C env) ρ) h₁ := {
    ns := ⟨_, hns₁, fun y v hy hv => by unfold maskρ at hv; rw [if_pos hy] at hv; cases hv⟩
    cells := fun y a e => by
      have := hsub _ (mem_of_lookup e)
      obtain ⟨o, h1, h2⟩ := hf.1.cells y a (lookup_of_nodup he.cnod this)
      refine ⟨o, h1.keeps old, fun v hv => h2 v ?_⟩
      unfold maskρ at hv
      split at hv
      · cases hv
      · exact hv }
  show codeAny c.M A (.compStart (.ListComp elt [⟨target, iter, [], 0⟩] scope pos) 0 (.ref I) (.ref D) (cenvOf scope C env)) (RR (.ref D) C) { s with heap := h₁, toks := s.toks + 0 }
  have loop : codeAny c.M A (.compLoop (.ListComp elt [⟨target, iter, [], 0⟩] scope pos) 0 (.ref I) (.ref D) (cenvOf scope C env)) (RR (.ref D) C) { s with heap := h₁, toks := s.toks + 0 } := by
    refine codeAny_loop rfl (fun k s' => ∃ i ys g₁, i ≤ n ∧ k = n - i ∧ ys.length = i ∧ St i s'.heap ∧ (∀ b, fp b → g₁ b = none) ∧ g₁ D = none ∧ g₁ C = none ∧ Has c g₁ s'.heap ∧ s'.heap.PlainList D ys.toArray ∧ (∃ m, s'.heap.Ns C m) ∧
      (∀ b o, s.heap.get? b = some o → g b = none → ¬ fp b → s'.heap.get? b = some o ∧ g₁ b = none) ∧ s'.os = s.os ∧ s'.gens = s.gens ∧ Inv i ys g₁) ?_ n
      ⟨0, [], g, Nat.zero_le _, rfl, rfl, hst₁, fun b q => (hfp b q).1, gD, gC, fun b ao e => RepH.keep (hh b ao e) fun o q => old b o q, hD₁, ⟨_, hns₁⟩, fun b o e n _ => ⟨old b o e, n⟩, rfl, rfl, h0⟩
    rintro k s₃ ⟨i, ys, g₃, hi, rfl, hlen, hst₃, hoff, hD₃, hC₃, hh₃, hL₃, ⟨m₃, hn₃⟩, hout, hos, hgens, hI⟩
    show wpAny _ _ ((compTurn (.ListComp elt [⟨target, iter, [], 0⟩] scope pos) 0 (.ref I) (.ref D) (cenvOf scope C env)).onRaise (fun x => do noteFrame x (cenvOf scope C env); theTreesLotGoes x)) _ _ s₃
    refine wpAny_noted ?_
    rw [compTurn_list1]
    have hb₃ : BaseOk c s₃.heap g₃ := fun b o e => hout b o (hb b o e).1 (hb b o e).2 fun q => by rw [(hfp b q).2.2] at e; cases e
    have hfr₃ : (Fm.fr (cenvOf scope C env) (maskρ (cenvOf scope C env) ρ)).p s₃.heap g₃ := ⟨{
        ns := ⟨_, hn₃, fun y v hy hv => by unfold maskρ at hv; rw [if_pos hy] at hv; cases hv⟩
        cells := fun y a e => by
          have hm := hsub _ (mem_of_lookup e)
          obtain ⟨o, ⟨oc, h1, h1'⟩, h2⟩ := hf.1.cells y a (lookup_of_nodup he.cnod hm)
          have own : Fp env a := .inr ⟨y, hm⟩
          refine ⟨o, ⟨oc, (hout a oc h1 (hf.2 a own).1 fun q => (hfp a q).2.1 own).1, h1'⟩, fun v hv => h2 v ?_⟩
          unfold maskρ at hv
          split at hv
          · cases hv
          · exact hv }, fun b ob => by
        rcases fpC b ob with e | own
        · rw [e]; obtain ⟨o, _, _, e', _⟩ := hn₃; exact ⟨hC₃, o, e'⟩
        · obtain ⟨n1, o, e⟩ := hf.2 b own
          have := hout b o e n1 fun q => (hfp b q).2.1 own
          exact ⟨this.2, o, this.1⟩⟩
    by_cases hlt : i < n
    · refine wpAny_bind (wpAny_standAt (wpAny_bind (wpAny_mono (W.item i g₃ s₃ hlt hst₃ hh₃ hoff (hPre _ _ _ hI)) (fun r s₄ q => ?_) (fun _ _ z => z.elim))))
      obtain ⟨v, rfl, q⟩ := q
      refine wpAny_bind (wpAny_mono q (fun _ s₅ q => ?_) (fun _ _ z => z.elim))
      obtain ⟨g₅, st₅, hst₅, hitem⟩ := q
      have hb₅ : BaseOk c s₅.heap g₅ := fun b o e => st₅.out b o (hb₃ b o e).1 (hb₃ b o e).2 fun q => by rw [(hfp b q).2.2] at e; cases e
      have nfp : ∀ b, Fp (cenvOf scope C env) b → ¬ fp b := fun b ob q => by
        rcases fpC b ob with e | own
        · exact fC (e ▸ q)
        · exact (hfp b q).2.1 own
      have hf₅ : (Fm.fr (cenvOf scope C env) (maskρ (cenvOf scope C env) ρ)).p s₅.heap g₅ := ⟨hfr₃.1.keep fun b o ob e => (st₅.out b o e (hfr₃.2 b ob).1 (nfp b ob)).1, fun b ob => by
        obtain ⟨n1, o, e⟩ := hfr₃.2 b ob
        have := st₅.out b o e n1 (nfp b ob)
        exact ⟨this.2, o, this.1⟩⟩
      refine wpAny_bind (wpAny_mono (turn i ys v g₃ g₅ hlt hlen hI hitem C hce s₅ hb₅ hf₅ st₅.has) (fun _ s₆ q => ?_) (fun _ _ z => z.elim))
      obtain ⟨ρ₆, g₆, hf₆, st₆, q⟩ := q
      have hb₆ := hb₅.stepO hce st₆
      refine wpAny_bind (wpAny_bind (wpAny_mono (q s₆ hb₆ hf₆ st₆.has) (fun y s₇ q => ?_) (fun _ _ z => z.elim)))
      obtain ⟨g₇, st₇, hI'⟩ := q
      -- the list, kept so far
      have keep7 : ∀ b o, s₃.heap.get? b = some o → g₃ b = none → ¬ fp b → b ≠ C → s₇.heap.get? b = some o ∧ g₇ b = none := fun b o e n1 nf nc => by
        obtain ⟨e5, n5⟩ := st₅.out b o e n1 nf
        obtain ⟨e6, n6⟩ := st₆.out b o e5 n5 fun q => nc (ownC b q)
        exact st₇.out b o e6 n6
      obtain ⟨nD, eD⟩ := hL₃
      obtain ⟨eD7, gD7⟩ := keep7 D _ eD hD₃ fD hDC
      have gC7 : g₇ C = none ∧ ∃ m, s₇.heap.Ns C m := by
        obtain ⟨n6, o6, e6⟩ := hf₆.2 C (.inl rfl)
        obtain ⟨m6, hn6, _⟩ := hf₆.1.ns
        obtain ⟨oo, es, ep, e6', r⟩ := hn6
        have := st₇.out C oo e6' n6
        exact ⟨this.2, m6, ⟨oo, es, ep, this.1, r⟩⟩
      refine wpAny_bind ?_
      refine call_meets slot_list_append ⟨_, eD7, rfl⟩ entry_list_append (args_list_append _ _) (list_append D ys.toArray nD y (by simp; lia)) ⟨eD7, ?_⟩
      obtain ⟨m', e'⟩ := plain_seq (f := fun z => z.push y) (ws := ys ++ [y]) eD7 (by simp)
      have hs' : Heap.SameBut D s₇.heap (s₇.heap.update D (Obj.mapSeq fun x_1 => x_1.push y)) := Heap.SameBut.update ..
      refine wpAny_pure (wpAny_pure ⟨rfl, n - (i + 1), by lia, i + 1, ys ++ [y], g₇, by lia, rfl, by simp [hlen], ?_, ?_, gD7, gC7.1, ?_, ⟨m', e'⟩, ?_, ?_, ?_, ?_, hI'⟩)
      · refine W.frame _ _ _ hst₅ fun b q o e => ?_
        have nc : b ≠ C := fun z => fC (z ▸ q)
        have nd : b ≠ D := fun z => fD (z ▸ q)
        obtain ⟨e6, n6⟩ := st₆.out b o e (st₅.off b q) fun z => nc (ownC b z)
        obtain ⟨e7, _⟩ := st₇.out b o e6 n6
        exact (hs'.2 b nd).trans e7
      · intro b q
        obtain ⟨o, e⟩ := W.alive _ _ hst₅ b q
        have nc : b ≠ C := fun z => fC (z ▸ q)
        obtain ⟨e6, n6⟩ := st₆.out b o e (st₅.off b q) fun z => nc (ownC b z)
        exact (st₇.out b o e6 n6).2
      · intro b ao e
        have nd : b ≠ D := by rintro rfl; rw [gD7] at e; cases e
        exact RepH.keep (st₇.has b ao e) fun o q => (hs'.2 b nd).trans q
      · obtain ⟨m, hn⟩ := gC7.2; exact ⟨m, hn.sameBut hs' (Ne.symm hDC)⟩
      · intro b o e n1 nf
        have nc : b ≠ C := by rintro rfl; rw [noC] at e; cases e
        have nd : b ≠ D := by rintro rfl; rw [noD] at e; cases e
        obtain ⟨e3, n3⟩ := hout b o e n1 nf
        obtain ⟨e7, n7⟩ := keep7 b o e3 n3 nf nc
        exact ⟨(hs'.2 b nd).trans e7, n7⟩
      · show s₇.os = _; rw [st₇.os, st₆.os, st₅.os, hos]
      · show s₇.gens = _; rw [st₇.gens, st₆.gens, st₅.gens, hgens]
    · have hin : i = n := by lia
      subst hin
      refine wpAny_bind (wpAny_standAt (wpAny_bind (wpAny_mono (W.done g₃ s₃ hst₃ hh₃ hoff (hPre _ _ _ hI)) (fun r s₄ q => ?_) (fun _ _ z => z.elim))))
      obtain ⟨rfl, st₄⟩ := q
      obtain ⟨nD, eD⟩ := hL₃
      have eC : ∃ m, s₄.heap.Ns C m := let ⟨o, es, ep, e, r⟩ := hn₃; ⟨m₃, o, es, ep, (st₄.out C o e hC₃ fC).1, r⟩
      obtain ⟨m₄, hn₄⟩ := eC
      exact wpAny_pure (hRR D C s₄ ys g₃ m₄ hI noD noC hDC hlen hn₄ st₄.has ⟨nD, (st₄.out D _ eD hD₃ fD).1⟩ hD₃ hC₃ (fun b o e n1 nf => let ⟨e3, n3⟩ := hout b o e n1 nf; st₄.out b o e3 n3 nf) (by rw [st₄.os, hos]) (by rw [st₄.gens, hgens]))
  exact codeAny_compStart_list loop (wpAny_mono (W.self 0 _ _ hst₁ loop) (fun _ _ z => z) (fun _ _ z => z.elim))

/-- what a comprehension over a value in hand gives -/
structure CompV (c : Cx) (A : Around) (env : Env) (scope : Scope) (target elt : Expr) (ρ : Rho) (x : Value) (g : GH) (K : Addr → GH → Prop) : Prop where
  it : ∃ (n : Nat) (Pre : GH → Prop) (Item : Nat → Value → GH → GH → Prop) (g' : GH) (Inv : Nat → List Value → GH → Prop), Iterable c A target x g g' n Pre Item ∧ n ≤ sizeLine ∧ (∀ i ys g, Inv i ys g → Pre g) ∧ Inv 0 [] g' ∧
    (∀ i ys v g g₂, i < n → ys.length = i → Inv i ys g → Item i v g g₂ → CompTurn c A env scope target elt ρ v g₂ (fun y g₄ => Inv (i + 1) (ys ++ [y]) g₄)) ∧
    (∀ ys g' D, ys.length = n → Inv n ys g' → g' D = none → K D (upd g' D (.lst ys)))

theorem e_Comp {elt target iter : Expr} {scope : Scope} {pos : Pos} {Q : Value → GH → Prop} (he : EnvOk c env) (hk : compOk scope env = true)
    (h : TW c (Fm.fr env ρ) A (eval iter env) g (fun x g₁ => CompV c A env scope target elt ρ x g₁ (fun D g' => Q (.ref D) g')))
    (hs : ∀ x, foldedSetIterable iter env x = Pure.pure x := by intro _; rfl) : TW c (Fm.fr env ρ) A (eval (.ListComp elt [⟨target, iter, [], 0⟩] scope pos) env) g Q := fun s hb hf hh => by
  have hk' := hk
  unfold compOk at hk'
  simp only [Bool.and_eq_true, beq_iff_eq] at hk'
  obtain ⟨⟨⟨⟨k1, k2⟩, k3⟩, k4⟩, k5⟩ := hk'
  rw [eval_ListComp]
  refine wpAny_comprehension_free (use := none) rfl hs (closure_is (List.all_eq_true.mpr fun p hp => ?_)) k1 (fun x hx hl => ?_) ?_
  · have := List.all_eq_true.mp k2 p hp
    simp only [Bool.or_eq_true, Bool.and_eq_true] at this ⊢
    exact this.imp id fun q => q.1
  · have := List.all_eq_true.mp k3 x hx
    rw [hl] at this
    simpa using this
  refine wpAny_mono (h s hb hf hh) (fun x s₁ q => ?_) (fun _ _ z => z.elim)
  obtain ⟨g₁, st, ⟨n, Pre, Item, g', Inv, X, hsz, hPre, h0, turn, fin⟩⟩ := q
  refine wpAny_mono (X s₁ (hb.step st) st.has) (fun v s₂ q => ?_) (fun _ _ z => z.elim)
  obtain ⟨I, fp, St, rfl, W, hst, hfp, st₂⟩ := q
  have hf₁ := (Fm.fr env ρ).st _ _ _ _ st.out hf
  have hb₁ := hb.step st
  refine comp_core (RR := fun acc C => compPost c.M A (fun _ _ => False) none (fun v s' => ∃ g', Step c s g s' g' ∧ Q v g') acc C) he hk W hsz Inv hPre turn s₂ (hb₁.step st₂) ((Fm.fr env ρ).st _ _ _ _ st₂.out hf₁) st₂.has hst
    (fun b q => ⟨(hfp b q).2, fun o => by
      rcases (hfp b q).1 with e | e
      · obtain ⟨_, o, e'⟩ := hf₁.2 b o; rw [e] at e'; cases e'
      · exact e (hf₁.2 b o).1, by
      cases z : c.B.get? b with
      | none => rfl
      | some o =>
        rcases (hfp b q).1 with e | e
        · have := (hb₁ b o z).1; rw [e] at this; cases this
        · exact absurd (hb₁ b o z).2 e⟩) h0 ?_
  intro D C s' ys g₃ m hI hD hC hDC hlen hns hh₃ hpl gD gC hout hos hgens
  refine ⟨m, hns, fun h' hs' => ⟨upd g₃ D (.lst ys), ⟨fun b ao e => ?_, fun b o e n1 => ?_, ?_, ?_⟩, fin ys g₃ D hlen hI gD⟩⟩
  · by_cases hbD : b = D
    · subst hbD
      rw [upd_self] at e; cases e
      obtain ⟨k, e⟩ := hpl
      exact ⟨k, (hs'.2 b hDC).trans e⟩
    · rw [upd_ne hbD] at e
      have hbC : b ≠ C := by rintro rfl; rw [gC] at e; cases e
      exact RepH.keep (hh₃ b ao e) fun o q => (hs'.2 b hbC).trans q
  · obtain ⟨e1, n1'⟩ := st.out b o e n1
    obtain ⟨e2, n2⟩ := st₂.out b o e1 n1'
    have nf : ¬ fp b := fun q => by
      rcases (hfp b q).1 with e' | e'
      · rw [e'] at e1; cases e1
      · exact e' n1'
    obtain ⟨e3, n3⟩ := hout b o e2 n2 nf
    have hbC : b ≠ C := by rintro rfl; rw [hC] at e2; cases e2
    have hbD : b ≠ D := by rintro rfl; rw [hD] at e2; cases e2
    exact ⟨(hs'.2 b hbC).trans e3, (upd_ne hbD).trans n3⟩
  · show s'.os = _; rw [hos, st₂.os, st.os]
  · show s'.gens = _; rw [hgens, st₂.gens, st.gens]

theorem b_AssignComp {y : Str} {py spos : Pos} {elt target iter : Expr} {scope : Scope} {pos : Pos} {Q : Flow → Rho → GH → Prop} (he : EnvOk c env) (hk : compOk scope env = true) (hy : env.kindOf y = some .local)
    (hsw : swapsWith (.ListComp elt [⟨target, iter, [], 0⟩] scope pos) (some (.Name y py)) spos.line env = Pure.pure true)
    (h : TW c (Fm.fr env ρ) A (eval iter env) g (fun x g₁ => CompV c A env scope target elt ρ x g₁ (fun D g' => Q .next (setv ρ y (.ref D)) g')))
    (hs : ∀ x, foldedSetIterable iter env x = Pure.pure x := by intro _; rfl) : BW c env A (exec (.Assign [.Name y py] (.ListComp elt [⟨target, iter, [], 0⟩] scope pos) spos) env) ρ g Q := fun s hb hf hh => by
  have hk' := hk
  unfold compOk at hk'
  simp only [Bool.and_eq_true, beq_iff_eq] at hk'
  obtain ⟨⟨⟨⟨k1, k2⟩, k3⟩, k4⟩, k5⟩ := hk'
  rw [exec_Assign_Name_used y py _ spos hsw]
  refine wpAny_bind (wpAny_standAt (wpAny_bind ?_))
  show wpAny _ A (do let _ ← comprehension (.ListComp elt [⟨target, iter, [], 0⟩] scope pos) scope env _ (newList []) false (eval iter env) (some (assign (.Name y py) env))) _ _ s
  refine wpAny_bind (wpAny_mono (wpAny_comprehension_free (use := some (assign (.Name y py) env)) (Q := fun _ s' => ∃ ρ' g', (Fm.fr env ρ').p s'.heap g' ∧ StepO c env s g s' g' ∧ Q .next ρ' g') (E := fun _ _ => False) rfl hs (closure_is (List.all_eq_true.mpr fun p hp => ?_)) k1 (fun x hx hl => ?_) ?_)
    (fun _ s' hq => wpAny_pure (wpAny_pure hq)) fun _ _ e => e)
  · have := List.all_eq_true.mp k2 p hp
    simp only [Bool.or_eq_true, Bool.and_eq_true] at this ⊢
    exact this.imp id fun q => q.1
  · have := List.all_eq_true.mp k3 x hx
    rw [hl] at this
    simpa using this
  refine wpAny_mono (h s hb hf hh) (fun x s₁ q => ?_) (fun _ _ z => z.elim)
  obtain ⟨g₁, st, ⟨n, Pre, Item, g', Inv, X, hsz, hPre, h0, turn, fin⟩⟩ := q
  refine wpAny_mono (X s₁ (hb.step st) st.has) (fun v s₂ q => ?_) (fun _ _ z => z.elim)
  obtain ⟨I, fp, St, rfl, W, hst, hfp, st₂⟩ := q
  have hf₁ := (Fm.fr env ρ).st _ _ _ _ st.out hf
  have hb₁ := hb.step st
  have hb₂ := hb₁.step st₂
  have hf₂ := (Fm.fr env ρ).st _ _ _ _ st₂.out hf₁
  have hfp' : ∀ b, fp b → g' b = none ∧ ¬ Fp env b ∧ c.B.get? b = none := fun b q => ⟨(hfp b q).2, fun o => by
      rcases (hfp b q).1 with e | e
      · obtain ⟨_, o, e'⟩ := hf₁.2 b o; rw [e] at e'; cases e'
      · exact e (hf₁.2 b o).1, by
      cases z : c.B.get? b with
      | none => rfl
      | some o =>
        rcases (hfp b q).1 with e | e
        · have := (hb₁ b o z).1; rw [e] at this; cases this
        · exact absurd (hb₁ b o z).2 e⟩
  refine comp_core (RR := fun acc C => compPost c.M A (fun _ _ => False) (some (assign (.Name y py) env)) (fun _ s' => ∃ ρ' g', (Fm.fr env ρ').p s'.heap g' ∧ StepO c env s g s' g' ∧ Q .next ρ' g') acc C) he hk W hsz Inv hPre turn s₂ hb₂ hf₂ st₂.has hst hfp' h0 ?_
  intro D C s' ys g₃ m hI hD hC hDC hlen hns hh₃ hpl gD gC hout hos hgens
  have out' : ∀ b o, s₂.heap.get? b = some o → g' b = none → ¬ fp b → s'.heap.get? b = some o ∧ (upd g₃ D (.lst ys)) b = none := fun b o e n nf => by
    obtain ⟨e', n'⟩ := hout b o e n nf
    have hbD : b ≠ D := by rintro rfl; rw [hD] at e; cases e
    exact ⟨e', (upd_ne hbD).trans n'⟩
  have hh' : Has c (upd g₃ D (.lst ys)) s'.heap := fun b ao e => by
    by_cases hbD : b = D
    · subst hbD; rw [upd_self] at e; cases e; exact hpl
    · rw [upd_ne hbD] at e; exact hh₃ b ao e
  have nfE : ∀ b, Fp env b → ¬ fp b := fun b o q => (hfp' b q).2.1 o
  have hb' : BaseOk c s'.heap (upd g₃ D (.lst ys)) := fun b o e => out' b o (hb₂ b o e).1 (hb₂ b o e).2 fun q => by rw [(hfp' b q).2.2] at e; cases e
  have hf' : (Fm.fr env ρ).p s'.heap (upd g₃ D (.lst ys)) := ⟨hf₂.1.keep fun b o ob e => (out' b o e (hf₂.2 b ob).1 (nfE b ob)).1, fun b ob => by
    obtain ⟨n1, o, e⟩ := hf₂.2 b ob
    have := out' b o e n1 (nfE b ob)
    exact ⟨this.2, o, this.1⟩⟩
  have bw := BW.store_local (U := fun _ ρ' g' => ρ' = setv ρ y (.ref D) ∧ g' = upd g₃ D (.lst ys)) (A := A) (v := .ref D) he hy ⟨rfl, rfl⟩ s' hb' hf' hh'
  refine wpAny_mono (wpAny_assign_Name bw) (fun _ s'' q => ?_) (fun _ _ z => z.elim)
  obtain ⟨ρ', g'', hf'', st'', rfl, rfl⟩ := q
  have hCo : ¬ Own env C := fun q => by obtain ⟨_, o, e⟩ := hf₂.2 C q.fp; rw [hC] at e; cases e
  have nsC : ∃ m, s''.heap.Ns C m := by
    obtain ⟨o, es, ep, e, r⟩ := hns
    have gC' : (upd g₃ D (.lst ys)) C = none := (upd_ne (Ne.symm hDC)).trans gC
    exact ⟨m, o, es, ep, (st''.out C o e gC' hCo).1, r⟩
  have gC'' : (upd g₃ D (.lst ys)) C = none := (upd_ne (Ne.symm hDC)).trans gC
  obtain ⟨m'', hn''⟩ := nsC
  have fpC : ∀ b, Fp env b → b ≠ C := fun b o e => by subst e; obtain ⟨_, o, e⟩ := hf₂.2 _ o; rw [hC] at e; cases e
  refine ⟨m'', hn'', fun h' hs' => ⟨setv ρ y (.ref D), upd g₃ D (.lst ys), ?_, ⟨fun b ao e => ?_, fun b o e n1 no => ?_, ?_, ?_⟩, fin ys g₃ D hlen hI gD⟩⟩
  · exact ⟨hf''.1.keep fun b o ob e => (hs'.2 b (fpC b ob)).trans e, fun b ob => by
      obtain ⟨n1, o, e⟩ := hf''.2 b ob
      exact ⟨n1, o, (hs'.2 b (fpC b ob)).trans e⟩⟩
  · have hbC : b ≠ C := by rintro rfl; rw [gC''] at e; cases e
    exact RepH.keep (st''.has b ao e) fun o q => (hs'.2 b hbC).trans q
  · obtain ⟨e1, n1'⟩ := st.out b o e n1
    obtain ⟨e2, n2⟩ := st₂.out b o e1 n1'
    have nf : ¬ fp b := fun q => by
      rcases (hfp b q).1 with e' | e'
      · rw [e'] at e1; cases e1
      · exact e' n1'
    obtain ⟨e3, n3⟩ := out' b o e2 n2 nf
    have hbC : b ≠ C := by rintro rfl; rw [hC] at e2; cases e2
    obtain ⟨e4, n4⟩ := st''.out b o e3 n3 no
    exact ⟨(hs'.2 b hbC).trans e4, n4⟩
  · show s''.os = _; rw [st''.os, hos, st₂.os, st.os]
  · show s''.gens = _; rw [st''.gens, hgens, st₂.gens, st.gens]
end
end
-- part G9
section
/-! ## Subscripts -/
section
variable {c : Cx} {F : Fm} {A : Around} {g : GH} {env : Env} {Q : Value → GH → Prop} {a b : Int} {t u : Tok}

theorem e_Sub {value slice : Expr} {pos : Pos} (h : TW c F A (eval value env) g (fun o g₁ => TW c F A (eval slice env) g₁ (fun i g₂ => TW c F A (subscriptTail value slice o i) g₂ Q))) : TW c F A (eval (.Subscript value slice pos) env) g Q := by
  rw [eval_Subscript]
  exact TW.bind (h.mono fun o g₁ h₁ => TW.bind (TW.holding (h₁.mono fun i g₂ h₂ => TW.bind (TW.standAt h₂))))
theorem s_any {value slice : Expr} {o i : Value} {ops : List Value} {T id : String} (hT : ∀ s : Shared, BaseOk c s.heap g → Has c g s.heap → s.TypeIs o T) (hl : typeLookup (.type T) "__getitem__" = pure (some (.builtin id)))
    (hg : TW c F A (getItem o i) g Q) (hs : subscripted slice false o i = operate ops (getItem o i)) : TW c F A (subscriptTail value slice o i) g Q := fun s hb hf hh =>
  tail_any (hT s hb hh) hl (hg s hb hf hh) hs
theorem s_list {value slice : Expr} {i : Value} {l : Addr} {vs : List Value} (hl : LIn c g l vs) (hg : TW c F A (getItem (.ref l) i) g Q) (hs : subscripted slice false (.ref l) i = operate [.ref l, i] (getItem (.ref l) i) := by rfl) : TW c F A (subscriptTail value slice (.ref l) i) g Q :=
  s_any (fun s hb hh => (hl s.heap hb hh).typeIs) slot_list_getitem.lookup hg hs
theorem s_tup {value slice : Expr} {i : Value} {l : Addr} {vs : List Value} (hl : g l = some (.tup vs)) (hg : TW c F A (getItem (.ref l) i) g Q) (hs : subscripted slice false (.ref l) i = operate [.ref l, i] (getItem (.ref l) i) := by rfl) : TW c F A (subscriptTail value slice (.ref l) i) g Q :=
  s_any (fun s hb hh => (RepH.isTup (hh l _ hl)).typeIs) slot_tuple_getitem.lookup hg hs
theorem s_dict {value slice : Expr} {i : Value} {d : Addr} {kvs : List (Int × Value)} {ep : Nat} (hd : g d = some (.dic kvs ep)) (hg : TW c F A (getItem (.ref d) i) g Q) (hs : subscripted slice false (.ref d) i = operate [.ref d, i] (getItem (.ref d) i) := by rfl) : TW c F A (subscriptTail value slice (.ref d) i) g Q :=
  s_any (fun s hb hh => ((hh d _ hd).1.dictOf).typeIs) slot_dict_getitem.lookup hg hs

/-- l[a:b], b left out or not -/
theorem e_Slice {value : Expr} {lo hi : Option Expr} {p pos : Pos} (h : TW c F A (eval value env) g (fun o g₁ => TW c F A (evalPart lo env) g₁ (fun vl g₂ => TW c F A (evalPart hi env) g₂ (fun vu g₃ =>
      ∃ l vs a b, o = .ref l ∧ LIn c g₃ l vs ∧ vs.length ≤ sizeLine ∧ IsPart vl a ∧ IsPart vu b ∧ ∀ d, g₃ d = none → Q (.ref d) (upd g₃ d (.lst (slicePick vs.toArray a b none).toList))))))
    (ht : ∀ o r, letTemporaryGo value o r = pure () := by intro _ _; rfl) : TW c F A (eval (.Subscript value (.Slice lo hi none p) pos) env) g Q := fun s hb hf hh => by
  refine wpAny_Subscript_list_slice (wpAny_mono (h s hb hf hh) (fun o s₁ q => ?_) fun _ _ z => z) ht
  obtain ⟨g₁, st₁, q⟩ := q
  refine wpAny_mono (q s₁ (hb.step st₁) (F.st _ _ _ _ st₁.out hf) st₁.has) (fun vl s₂ q => ?_) fun _ _ z => z
  obtain ⟨g₂, st₂, q⟩ := q
  have st12 := st₁.trans st₂
  refine wpAny_mono (q s₂ (hb.step st12) (F.st _ _ _ _ st12.out hf) st₂.has) (fun vu s₃ q => ?_) fun _ _ z => z
  obtain ⟨g₃, st₃, l, vs, a, b, rfl, hl, hsz, pa, pb, hQ⟩ := q
  have st13 := st12.trans st₃
  refine ⟨l, vs.toArray, a, b, rfl, hl _ (hb.step st13) st₃.has, by simpa using hsz, pa, pb, ?_⟩
  have e0 : (s₃.heap.push { cls := .type "slice", data := .fields #[vl, vu, .none] }).objs.size = s₃.heap.objs.size + 1 := by simp [Heap.push]
  have k1 : ∀ b' o, s₃.heap.get? b' = some o → ((s₃.heap.push { cls := .type "slice", data := .fields #[vl, vu, .none] }).push { cls := .type "list", data := .seq (slicePick vs.toArray a b none) }).get? b' = some o := fun b o e => Heap.get?_push_of_some _ (Heap.get?_push_of_some _ e)
  have fr : s₃.heap.get? (s₃.heap.objs.size + 1) = none := get_ge_none (Nat.le_succ _)
  refine ⟨_, st13.trans (Step.new (ao := .lst (slicePick vs.toArray a b none).toList) (tk := s₃.toks) st₃.has (a := s₃.heap.objs.size + 1) fr (fun b o e => Heap.get?_push_of_some _ (Heap.get?_push_of_some _ e)) ⟨0, ?_⟩), hQ _ (st₃.has.fresh fr)⟩
  rw [← e0, Heap.get?_push_size _ rfl]

/-! displays -/
theorem e_List {elts : List Expr} {pos : Pos} (h : TW c F A (spliced (backTo pos (starEach elts env))) g (fun vs g₁ => vs.length ≤ sizeLine ∧ ∀ d, g₁ d = none → Q (.ref d) (upd g₁ d (.lst vs)))) : TW c F A (eval (.List elts pos) env) g Q := by
  show TW c F A (do PySem.standAt pos; newList (← spliced (backTo pos (starEach elts env)))) g Q
  exact TW.bind (TW.standAt (TW.bind (h.mono fun vs g₁ q => o_newList q.1 q.2)))
theorem e_Tuple {elts : List Expr} {k : Nat} {pos : Pos} (h : TW c F A (spliced (backTo pos (starEach elts env))) g (fun vs g₁ => vs.length ≤ sizeLine ∧ ∀ d, g₁ d = none → Q (.ref d) (upd g₁ d (.tup vs)))) : TW c F A (eval (.Tuple elts k pos) env) g Q := by
  show TW c F A (do PySem.standAt pos; newTuple (← spliced (backTo pos (starEach elts env)))) g Q
  exact TW.bind (TW.standAt (TW.bind (h.mono fun vs g₁ q => o_newTuple q.1 q.2)))

/-! dicts -/
theorem Heap.DictOf.at {h : Heap} {d : Addr} {kvs : List (Int × Value)} (x : h.DictOf (intKind c.prog c.w) d kvs) : ∃ ep, h.DictAt (intKind c.prog c.w) d kvs ep := let ⟨o, es, ep, r⟩ := x; ⟨ep, o, es, r⟩
end
end
-- part G10
section
section
variable {c : Cx} {F : Fm} {A : Around} {g : GH} {env : Env} {Q : Value → GH → Prop} {U : Unit → GH → Prop} {a b : Int} {t u : Tok}

/-! ## Dicts keyed by ints -/
theorem o_newDict (hc : c.Ok) (env : Env) {pos : Pos} (h : ∀ d ep, g d = none → Q (.ref d) (upd g d (.dic [] ep))) : TW c F A (eval (.Dict [] [] pos) env) g Q := fun s hb hf hh => by
  obtain ⟨o, es, ep, ho, r⟩ := Heap.DictOf.new (knd := intKind c.prog c.w) s.heap
  have hm : (s.heap.objs.size == sysModules) = false := by
    obtain ⟨o, _, _, e, _⟩ := hc.g
    have := Heap.lt_size (hb _ _ e).1
    exact beq_eq_false_iff_ne.mpr fun q => by rw [q] at this; exact absurd this (by decide)
  exact wpAny_Dict_empty ⟨_, Step.new (ao := .dic [] ep) (tk := s.toks) hh (get_size_none _) (fun _ _ e => Heap.get?_push_of_some _ e) ⟨⟨o, es, ho, r⟩, hm⟩, h _ _ (Has.fresh hh (get_size_none _))⟩
theorem o_setD {d : Addr} {kvs : List (Int × Value)} {ep : Nat} {v : Value} (hd : g d = some (.dic kvs ep)) (hsz : kvs.length ≤ sizeLine) (h : ∀ ep', U () (upd g d (.dic (stored kvs a v) ep'))) : TW c F A (setItem (.ref d) (.int a t) v) g U := fun s hb hf hh => by
  obtain ⟨hD, hm⟩ := hh d _ hd
  refine wpAny_setItem_pairs (knd := intKind c.prog c.w) (k := a) (intKind_is _ _ _ _) hD.dictOf (fun h' hD' hs => ?_) hsz
  obtain ⟨ep', hD'⟩ := Heap.DictOf.at hD'
  exact ⟨_, Step.store (ao' := .dic _ ep') (tk := s.toks + 1) hh hd hs ⟨hD', hm⟩, h _⟩
theorem o_inD {d : Addr} {kvs : List (Int × Value)} {ep : Nat} (hd : g d = some (.dic kvs ep)) (h : Q (.bool (valueAt kvs a).isSome) g) : TW c F A (compareOp .In (.int a t) (.ref d)) g Q := fun s hb hf hh => by
  obtain ⟨hD, hm⟩ := hh d _ hd
  exact wpAny_in_of (knd := intKind c.prog c.w) (k := a) (intKind_is _ _ _ _) hm hD.dictOf.mapOf ⟨g, Step.toks hh _, h⟩
theorem o_notInD {d : Addr} {kvs : List (Int × Value)} {ep : Nat} (hd : g d = some (.dic kvs ep)) (h : Q (.bool (!(valueAt kvs a).isSome)) g) : TW c F A (compareOp .NotIn (.int a t) (.ref d)) g Q := fun s hb hf hh => by
  obtain ⟨hD, hm⟩ := hh d _ hd
  exact wpAny_notIn_of (knd := intKind c.prog c.w) (k := a) (intKind_is _ _ _ _) hm hD.dictOf.mapOf ⟨g, Step.toks hh _, h⟩
theorem o_getD {d : Addr} {kvs : List (Int × Value)} {ep : Nat} {v : Value} (hd : g d = some (.dic kvs ep)) (hv : valueAt kvs a = some v) (h : Q v g) : TW c F A (getItem (.ref d) (.int a t)) g Q := fun s hb hf hh => by
  obtain ⟨hD, hm⟩ := hh d _ hd
  exact wpAny_getItem_of (knd := intKind c.prog c.w) (k := a) (intKind_is _ _ _ _) hD.dictOf.mapOf hv ⟨g, Step.toks hh _, h⟩
theorem ints_of {kvs : List (Int × Value)} : ∀ {vs : List Value} {ns : List Int}, vs.length = ns.length → (∀ (j : Nat) (v : Value) (n : Int), vs[j]? = some v → ns[j]? = some n → ∃ t, v = Value.int n t) → IntsAre vs ns
  | [], [], _, _ => .nil
  | [], _ :: _, h, _ => by simp at h
  | _ :: _, [], h, _ => by simp at h
  | v :: vs, n :: ns, h, f => by
    obtain ⟨t, rfl⟩ := f 0 v n rfl rfl
    exact .cons n t (ints_of (kvs := kvs) (by simpa using h) fun j v n e e' => f (j + 1) v n (by simpa using e) (by simpa using e'))
theorem o_sortedD {d : Addr} {kvs : List (Int × Value)} {ep : Nat} (hA : A.handled = none) (hd : g d = some (.dic kvs ep)) (h64 : kvs.length < 64)
    (h : ∀ a vs' ns', g a = none → IntsAre vs' ns' → ns'.Perm (kvs.map (·.1)) → ns'.Pairwise (· ≤ ·) → Q (.ref a) (upd g a (.lst vs'))) : TW c F A (call (.builtin "sorted") [.ref d]) g Q := fun s hb hf hh => by
  obtain ⟨hD, hm⟩ := hh d _ hd
  have hn : kvs.length ≤ sizeLine := by rw [sizeLine_eq]; lia
  refine Calls.call_function_entry kind_sorted plain_sorted entry_sorted (args_sorted1 _) ?_
  unfold Builtin.«sorted»
  refine wpAny_bind (m := checkCount "sorted" 1 1 _) (wpAny_pure ?_)
  refine wpAny_bind (PySem.W.kdu_collect (A := A.in1) (PySem.W.kdl_dict (knd := intKind c.prog c.w) (kvs := kvs) (ep := ep) hm) hA hD hn fun h' tk acc hk hacc => ?_)
  have hl : acc.toList.length = kvs.length := by rw [Array.length_toList]; exact hacc.1
  have hI : IntsAre acc.toList (kvs.map (·.1)) := ints_of (kvs := kvs) (by simpa using hl) fun j v n e e' => by
    obtain ⟨k, x, hx, hkv⟩ := hacc.2 j v (by rw [← Array.getElem?_toList]; exact e)
    rw [List.getElem?_map, hx] at e'
    cases e'
    exact Value.isInt_shape hkv
  refine wpAny_bind (wpAny_newList ?_ (by rw [hl]; exact hn))
  have hoL : (h'.push { cls := .type "list", data := .seq acc.toList.toArray }).get? h'.objs.size = some (seqObj "list" acc.toList.toArray 0) := Heap.get?_push_size _ rfl
  have fr : s.heap.get? h'.objs.size = none := by
    cases q : s.heap.get? h'.objs.size with
    | none => rfl
    | some o => exact absurd (Heap.lt_size (hk _ _ q)) (Nat.lt_irrefl _)
  refine wpAny_bind (wpAny_holding (wpAny_call_entry slot_list_sort ⟨_, hoL, rfl⟩ entry_list_sort (list_sort_tree hoL hI (by rw [hl]; exact h64) fun out ns' a1 a2 a3 => ⟨_, rfl, ?_⟩) (args_list_sort _)))
  obtain ⟨e, he⟩ := sortedHeap_at (out := out) hoL
  refine wpAny_pure ⟨_, rfl, _, Step.new (ao := .lst out.toList) (tk := tk) hh fr (fun b o q => ?_) ⟨e, by simpa using he⟩, h _ _ ns' (Has.fresh hh fr) a1 a2 a3⟩
  have hlt := Heap.lt_size (hk _ _ q)
  rw [sortedHeap_old (Nat.ne_of_lt hlt) (by rw [size_push']; exact Nat.lt_succ_of_lt hlt)]
  exact Heap.get?_push_of_some _ (hk _ _ q)

/-! membership, identity, equality -/
theorem o_inL {l : Addr} {vs : List Value} {ns : List Int} (hl : g l = some (.lst vs)) (hi : IntsAre vs ns) (h : Q (.bool (ns.any (· == a))) g) : TW c F A (compareOp .In (.int a t) (.ref l)) g Q := fun s hb hf hh =>
  in_list_ints (RepH.isList (hh l _ hl)) hi ⟨g, Step.refl hh, h⟩
theorem ints_any : ∀ {vs : List Value} {ns : List Int}, IntsAre vs ns → (e : Value → Bool) → (∀ n t, e (.int n t) = (n == a)) → vs.any e = ns.any (· == a)
  | _, _, .nil, _, _ => rfl
  | _, _, .cons n t r, e, he => by simp only [List.any_cons, he, ints_any r e he]
theorem ints_mem : ∀ {vs : List Value} {ns : List Int}, IntsAre vs ns → ∀ y ∈ vs, ∃ n t, y = .int n t
  | _, _, .nil, y, h => by cases h
  | _, _, .cons n t r, y, h => by
    rcases List.mem_cons.mp h with e | h
    · exact ⟨_, _, e⟩
    · exact ints_mem r y h
noncomputable def eqI (a : Int) : Value → Bool
  | .int n _ => n == a
  | _ => false
theorem o_notInL {l : Addr} {vs : List Value} {ns : List Int} (hl : g l = some (.lst vs)) (hi : IntsAre vs ns) (h : Q (.bool (!ns.any (· == a))) g) : TW c F A (compareOp .NotIn (.int a t) (.ref l)) g Q := fun s hb hf hh => by
  refine PySem.SeqAt.notIn_listAt (eqI a) (RepH.isList (hh l _ hl)) (fun y hy => ?_) ⟨g, Step.refl hh, ?_⟩
  · obtain ⟨n, t', rfl⟩ := ints_mem hi y (by simpa using hy)
    exact (PySem.MeetsSeq.EqGives.int n a t' t).at _ _
  · have := ints_any (a := a) hi (eqI a) fun _ _ => rfl
    rw [List.any_toArray, this]; exact h
theorem o_isNone {v : Value} (hv : ∀ id, v ≠ .builtin id) (h : Q (.bool (v == .none)) g) : TW c F A (compareOp .Is v .none) g Q := fun s hb hf hh =>
  wpAny_is_plain (by cases v <;> first | rfl | exact absurd rfl (hv _)) ⟨g, Step.refl hh, h⟩
theorem o_isNotNone {v : Value} (hv : ∀ id, v ≠ .builtin id) (h : Q (.bool (!(v == .none))) g) : TW c F A (compareOp .IsNot v .none) g Q := fun s hb hf hh =>
  wpAny_isNot_plain (by cases v <;> first | rfl | exact absurd rfl (hv _)) ⟨g, Step.refl hh, h⟩

/-- what a value reads as -/
noncomputable def RD (c : Cx) (g : GH) (v : Value) (d : PyData) : Prop := ∀ h, Has c g h → ∃ as, Reads h v d as
inductive RDs (c : Cx) (g : GH) : List Value → List PyData → Prop
  | nil : RDs c g [] []
  | cons {v d vs ds} : RD c g v d → RDs c g vs ds → RDs c g (v :: vs) (d :: ds)
theorem RDs.reads {vs : List Value} {ds : List PyData} (x : RDs c g vs ds) {h : Heap} (hh : Has c g h) : ∃ as, ReadsAll h vs ds as := by
  induction x with
  | nil => exact ⟨_, .nil⟩
  | cons h1 _ ih => obtain ⟨_, e⟩ := h1 h hh; obtain ⟨_, e'⟩ := ih; exact ⟨_, .cons e e'⟩
theorem RD.int (i : Int) (t : Tok) : RD c g (.int i t) (.int i) := fun _ _ => ⟨_, .int _ _⟩
theorem RD.str (x : Str) (t : Tok) : RD c g (.str x t) (.str x) := fun _ _ => ⟨_, .str _ _⟩
theorem RD.lst {l : Addr} {vs : List Value} {ds : List PyData} (hl : g l = some (.lst vs)) (hd : RDs c g vs ds) : RD c g (.ref l) (.list ds) := fun h hh => by
  obtain ⟨n, e⟩ := hh l _ hl
  obtain ⟨as, r⟩ := hd.reads hh
  exact ⟨_, .list e rfl rfl r⟩
theorem RD.tup {l : Addr} {vs : List Value} {ds : List PyData} (hl : g l = some (.tup vs)) (hd : RDs c g vs ds) : RD c g (.ref l) (.tuple ds) := fun h hh => by
  have e := hh l _ hl
  obtain ⟨as, r⟩ := hd.reads hh
  exact ⟨_, .tuple e rfl rfl r⟩
theorem RDs.ints : ∀ {vs : List Value} {ns : List Int}, IntsAre vs ns → RDs c g vs (ns.map .int)
  | _, _, .nil => .nil
  | _, _, .cons n t r => .cons (RD.int n t) (RDs.ints r)
theorem RD.ints {l : Addr} {vs : List Value} {ns : List Int} (hl : g l = some (.lst vs)) (hi : IntsAre vs ns) : RD c g (.ref l) (.list (ns.map .int)) := RD.lst hl (RDs.ints hi)
theorem o_eqD {x y : Value} {dx dy : PyData} (hx : RD c g x dx) (hy : RD c g y dy) (sx : PySem.SeqAt.shaped dx = true) (sy : PySem.SeqAt.shaped dy = true) (hu : A.units + 64 < cLine) (h : Q (.bool (PyData.eqv dx dy)) g) : TW c F A (compareOp .Eq x y) g Q := fun s hb hf hh => by
  obtain ⟨_, r1⟩ := hx _ hh
  obtain ⟨_, r2⟩ := hy _ hh
  exact PySem.SeqAt.compareEq_shaped r1 r2 sx sy hu ⟨g, Step.refl hh, h⟩
theorem o_neD {x y : Value} {dx dy : PyData} (hx : RD c g x dx) (hy : RD c g y dy) (sx : PySem.SeqAt.shaped dx = true) (sy : PySem.SeqAt.shaped dy = true) (hu : A.units + 64 < cLine) (h : Q (.bool (!PyData.eqv dx dy)) g) : TW c F A (compareOp .NotEq x y) g Q := fun s hb hf hh => by
  obtain ⟨_, r1⟩ := hx _ hh
  obtain ⟨_, r2⟩ := hy _ hh
  exact PySem.SeqAt.compareNe_shaped r1 r2 sx sy hu ⟨g, Step.refl hh, h⟩
theorem eqv_ints : ∀ ns ms : List Int, PyData.eqv (.list (ns.map .int)) (.list (ms.map .int)) = decide (ns = ms) := fun ns ms => by
  simp only [PyData.eqv]; exact ked_eqvAll ns ms

/-! sums -/
theorem o_sum {l : Addr} {vs : List Value} {ns : List Int} (hA : A.handled = none) (hl : LIn c g l vs) (hi : IntsAre vs ns) (h : ∀ t, Q (.int ns.sum t) g) : TW c F A (call (.builtin "sum") [.ref l]) g Q := fun s hb hf hh => by
  obtain ⟨xs, e⟩ := hi.allInts.items
  have hL := hl _ hb hh
  have hn := hi.numsOf
  have e2 : vs = (intItems xs).toList := by rw [← e]
  rw [e2, nums_intItems] at hn
  rw [e] at hL
  refine sum_intListG hA hL fun h' tk t' hk => ⟨g, Step.junk hh hk, ?_⟩
  rw [preSum_eq, List.take_of_length_le (by simp), hn]; exact h _
end
end
-- part G11
section
/-! ## enumerate and zip -/
noncomputable def enumObj (it : Addr) : Obj := { cls := .type "enumerate", dict := none, data := .fields #[.none, .bool false, .ref it, rawInt 0, .none, .none], slots := #[] }
/-- an enumerate over the list l, new -/
noncomputable def EnumG (g g' : GH) (e l : Addr) : Prop := ∃ it oi, g' = upd (upd g it (.raw oi)) e (.raw (enumObj it)) ∧ g it = none ∧ g e = none ∧ e ≠ it ∧ oi.cls = .type "list_iterator" ∧ oi.data = .fields #[.ref l, .int 0 0]

section
variable {c : Cx} {F : Fm} {A : Around} {g : GH} {Q : Value → GH → Prop}
theorem isListIter_def {h : Heap} {I l : Addr} {i : Nat} : h.IsListIter I l i ↔ ∃ o, h.get? I = some o ∧ o.cls = .type "list_iterator" ∧ o.data = .fields #[.ref l, .int i 0] := Iff.rfl
theorem o_enum {l : Addr} {vs : List Value} (hl : g l = some (.lst vs)) (h : ∀ e g', EnumG g g' e l → Q (.ref e) g') : TW c F A (call (.type "enumerate") [.ref l]) g Q := fun s hb hf hh => by
  obtain ⟨n, e⟩ := hh l _ hl
  refine call_enumerate_1 e fun h' he hit hsz hk => ?_
  obtain ⟨oi, hoi, hc, hd⟩ := hit
  have n1 : s.heap.get? s.heap.objs.size = none := get_size_none _
  have n2 : s.heap.get? (s.heap.objs.size + 1) = none := get_ge_none (Nat.le_succ _)
  have ne : s.heap.objs.size + 1 ≠ s.heap.objs.size := Nat.succ_ne_self _
  refine ⟨upd (upd g s.heap.objs.size (.raw oi)) (s.heap.objs.size + 1) (.raw (enumObj s.heap.objs.size)), ⟨fun b ao q => ?_, fun b o q n0 => ⟨hk _ _ q, ?_⟩, rfl, rfl⟩,
    h _ _ ⟨_, oi, rfl, hh.fresh n1, hh.fresh n2, ne, hc, hd⟩⟩
  · by_cases b1 : b = s.heap.objs.size + 1
    · subst b1; rw [upd_self] at q; cases q; exact he
    · rw [upd_ne b1] at q
      by_cases b2 : b = s.heap.objs.size
      · subst b2; rw [upd_self] at q; cases q; exact hoi
      · rw [upd_ne b2] at q; exact RepH.keep (hh b ao q) fun o z => hk b o z
  · have b1 : b ≠ s.heap.objs.size + 1 := by rintro rfl; rw [n2] at q; cases q
    have b2 : b ≠ s.heap.objs.size := by rintro rfl; rw [n1] at q; cases q
    rw [upd_ne b1, upd_ne b2]; exact n0

theorem iter_enum (hA : A.handled = none) {elts : List Expr} {k : Nat} {pos : Pos} {e l : Addr} {vs : List Value} {g' : GH} (E : EnumG g g' e l) (hl : g l = some (.lst vs)) :
    Iterable c A (.Tuple elts k pos) (.ref e) g' g vs.length (fun g => g l = some (.lst vs)) (fun i v g g₂ => ∃ T x t, g T = none ∧ v = .ref T ∧ vs[i]? = some x ∧ g₂ = upd g T (.tup [.int i t, x])) := fun s hb hh => by
  obtain ⟨it, oi, rfl, hg1, hg2, hne, hc, hd⟩ := E
  have he : IsEnum s.heap e it 0 .none := hh e (.raw (enumObj it)) (upd_self _ _ _)
  have hoi : s.heap.get? it = some oi := hh it (.raw oi) (by rw [upd_ne hne.symm, upd_self])
  have gne : ∀ b, b = e ∨ b = it → (upd (upd g it (.raw oi)) e (.raw (enumObj it))) b ≠ none := fun b q => by
    rcases q with rfl | rfl
    · rw [upd_self]; simp
    · rw [upd_ne hne.symm, upd_self]; simp
  have lne : ∀ b, b = e ∨ b = it → b ≠ l := fun b q z => by
    rcases q with rfl | rfl
    · rw [z, hl] at hg2; cases hg2
    · rw [z, hl] at hg1; cases hg1
  refine wpAny_pyIter_enum he ⟨e, fun b => b = e ∨ b = it, fun i h => (∃ old, IsEnum h e it i old) ∧ h.IsListIter it l i, rfl, ?_, ⟨⟨_, he⟩, ⟨_, hoi, hc, hd⟩⟩,
    fun b q => ⟨.inr (gne b q), by rcases q with rfl | rfl <;> first | exact hg2 | exact hg1⟩, ⟨fun b ao q => hh b ao ?_, fun b o q n0 => ⟨q, ?_⟩, rfl, rfl⟩⟩
  · exact {
      frame := fun i h h' st k => let ⟨⟨old, a⟩, b⟩ := st; ⟨⟨old, k e (.inl rfl) _ a⟩, isIter_keep b (k it (.inr rfl))⟩
      alive := fun i h st b q => by
        obtain ⟨⟨old, a⟩, o, b', _⟩ := st
        rcases q with rfl | rfl
        · exact ⟨_, a⟩
        · exact ⟨_, b'⟩
      item := fun i g s hi st hh hoff hp => by
        obtain ⟨⟨old, a⟩, b⟩ := st
        have hL := RepH.isList (hh l _ hp)
        refine wpAny_pyNext_enum_item a b hL (x := vs[i]) (by simp [hi]) hne fun h' ho hit ht hsz hk => ⟨_, rfl, wpAny_letOwnedTupleGo_enum ho fun h'' ho' hs => ?_⟩
        have n1 : s.heap.get? s.heap.objs.size = none := get_size_none _
        have e1 : e ≠ s.heap.objs.size := fun z => by rw [z] at a; have a' : s.heap.get? s.heap.objs.size = some _ := a; rw [n1] at a'; cases a'
        have e2 : it ≠ s.heap.objs.size := fun z => by obtain ⟨o, q, _⟩ := b; rw [z, n1] at q; cases q
        have kk : ∀ b o, b ≠ e → b ≠ it → s.heap.get? b = some o → h''.get? b = some o := fun b o b1 b2 q => (hs.2 b b1).trans (hk b o b1 b2 q)
        have ht' : h''.get? s.heap.objs.size = some { cls := .type "tuple", data := .seq #[.int i s.toks, vs[i]] } := (hs.2 _ e1.symm).trans ht
        refine ⟨upd g s.heap.objs.size (.tup [.int i s.toks, vs[i]]), ⟨fun b ao q => ?_, fun b o q n0 nf => ⟨kk b o (fun z => nf (.inl z)) (fun z => nf (.inr z)) q, ?_⟩, fun b q => ?_, rfl, rfl⟩, ?_, _, _, _, hh.fresh n1, rfl, by simp [hi], rfl⟩
        · by_cases bT : b = s.heap.objs.size
          · subst bT; rw [upd_self] at q; cases q; exact ht'
          · rw [upd_ne bT] at q
            exact RepH.keep (hh b ao q) fun o z => kk b o (fun w => by rw [w, hoff e (.inl rfl)] at q; cases q) (fun w => by rw [w, hoff it (.inr rfl)] at q; cases q) z
        · rw [upd_ne (by rintro rfl; rw [n1] at q; cases q)]; exact n0
        · rw [upd_ne (by rcases q with rfl | rfl <;> first | exact e1 | exact e2)]; exact hoff b q
        · have ec : (((i + 1 : Nat) : Int)) = (i : Int) + 1 := by lia
          refine ⟨⟨vs[i], ?_⟩, isIter_keep hit fun o q => (hs.2 _ hne.symm).trans q⟩
          show IsEnum h'' e it ((i + 1 : Nat) : Int) _
          rw [ec]; exact ho'
      done := fun g s st hh hoff hp => by
        obtain ⟨⟨old, a⟩, b⟩ := st
        refine wpAny_pyNext_enum_end hA a b (RepH.isList (hh l _ hp)) (by simp) fun h' hx => ⟨rfl, ⟨fun b ao q => RepH.keep (hh b ao q) fun o z => hx b o (fun w => by rw [w, hoff it (.inr rfl)] at q; cases q) z, fun b o q n0 nf => ⟨hx b o (fun z => nf (.inr z)) q, n0⟩, hoff, rfl, rfl⟩⟩
      self := fun i s Q st h => by obtain ⟨⟨old, a⟩, b⟩ := st; exact wpAny_pyIter_enum a h }
  · have b1 : b ≠ e := by rintro rfl; rw [hg2] at q; cases q
    have b2 : b ≠ it := by rintro rfl; rw [hg1] at q; cases q
    rw [upd_ne b1, upd_ne b2]; exact q
  · by_cases b1 : b = e
    · subst b1; exact hg2
    · by_cases b2 : b = it
      · subst b2; exact hg1
      · rw [upd_ne b1, upd_ne b2] at n0; exact n0

/-! zip -/
noncomputable def zipObj (TI TO : Addr) : Obj := { cls := .type "zip", dict := none, data := .fields #[.none, .bool false, .bool false, .ref TI, .ref TO], slots := #[] }
noncomputable def pairObj (a b : Value) : Obj := { cls := .type "tuple", data := .seq #[a, b] }
noncomputable def iterOf (o : Obj) (l : Addr) : Prop := o.cls = .type "list_iterator" ∧ o.data = .fields #[.ref l, .int 0 0]
structure ZipG (g g' : GH) (z l1 l2 : Addr) : Prop where
  ex : ∃ TI TO i1 i2 o1 o2, ZipApart z TI TO i1 i2 l1 l2 ∧ iterOf o1 l1 ∧ iterOf o2 l2 ∧ g z = none ∧ g TI = none ∧ g TO = none ∧ g i1 = none ∧ g i2 = none ∧
    g' z = some (.raw (zipObj TI TO)) ∧ g' TI = some (.raw (pairObj (.ref i1) (.ref i2))) ∧ g' TO = some (.raw (pairObj .none .none)) ∧ g' i1 = some (.raw o1) ∧ g' i2 = some (.raw o2) ∧
    ∀ b, b ≠ z → b ≠ TI → b ≠ TO → b ≠ i1 → b ≠ i2 → g' b = g b

theorem o_zip {l1 l2 : Addr} {xs ys : List Value} (hl1 : g l1 = some (.lst xs)) (hl2 : g l2 = some (.lst ys)) (h : ∀ z g', ZipG g g' z l1 l2 → Q (.ref z) g') : TW c F A (call (.type "zip") [.ref l1, .ref l2]) g Q := fun s hb hf hh => by
  refine call_zip_2 (RepH.isList (hh l1 _ hl1)) (RepH.isList (hh l2 _ hl2)) fun h' hz hTI hTO hi1 hi2 hsz hk => ?_
  obtain ⟨o1, ho1, c1, d1⟩ := hi1
  obtain ⟨o2, ho2, c2, d2⟩ := hi2
  have L1 := RepH.lt (hh l1 _ hl1)
  have L2 := RepH.lt (hh l2 _ hl2)
  generalize hN : s.heap.objs.size = N at *
  have fr : ∀ k, g (N + k) = none := fun k => hh.fresh (get_ge_none (by rw [hN]; exact Nat.le_add_right _ _))
  have none' : ∀ k, s.heap.get? (N + k) = none := fun k => get_ge_none (by rw [hN]; exact Nat.le_add_right _ _)
  let g' : GH := fun b => if b = N + 4 then some (.raw (zipObj (N + 2) (N + 3))) else if b = N + 2 then some (.raw (pairObj (.ref N) (.ref (N + 1)))) else if b = N + 3 then some (.raw (pairObj .none .none)) else if b = N then some (.raw o1) else if b = N + 1 then some (.raw o2) else g b
  have e4 : g' (N + 4) = some (.raw (zipObj (N + 2) (N + 3))) := by simp [g']
  have e2 : g' (N + 2) = some (.raw (pairObj (.ref N) (.ref (N + 1)))) := by simp [g']
  have e3 : g' (N + 3) = some (.raw (pairObj .none .none)) := by simp [g']
  have e0 : g' N = some (.raw o1) := by simp [g']
  have e1 : g' (N + 1) = some (.raw o2) := by simp [g']
  have eo : ∀ b, b ≠ N + 4 → b ≠ N + 2 → b ≠ N + 3 → b ≠ N → b ≠ N + 1 → g' b = g b := fun b a1 a2 a3 a4 a5 => by simp [g', a1, a2, a3, a4, a5]
  clear_value g'
  refine ⟨g', ⟨fun b ao q => ?_, fun b o q n0 => ⟨hk _ _ q, ?_⟩, rfl, rfl⟩, h _ _ ⟨N + 2, N + 3, N, N + 1, o1, o2, zipApart_new L1 L2, ⟨c1, d1⟩, ⟨c2, d2⟩, fr 4, fr 2, fr 3, fr 0, fr 1, e4, e2, e3, e0, e1, fun b a1 a2 a3 a4 a5 => eo b a1 a2 a3 a4 a5⟩⟩
  · by_cases b4 : b = N + 4
    · subst b4; rw [e4] at q; cases q; exact hz
    by_cases b2 : b = N + 2
    · subst b2; rw [e2] at q; cases q; exact hTI
    by_cases b3 : b = N + 3
    · subst b3; rw [e3] at q; cases q; exact hTO
    by_cases b0 : b = N
    · subst b0; rw [e0] at q; cases q; exact ho1
    by_cases b1 : b = N + 1
    · subst b1; rw [e1] at q; cases q; exact ho2
    rw [eo b b4 b2 b3 b0 b1] at q; exact RepH.keep (hh b ao q) fun o z => hk b o z
  · have nb : ∀ k, b ≠ N + k := fun k z => by rw [z, none' k] at q; cases q
    rw [eo b (nb 4) (nb 2) (nb 3) (nb 0) (nb 1)]; exact n0

theorem iter_zip (hA : A.handled = none) {elts : List Expr} {k : Nat} {pos : Pos} {z l1 l2 : Addr} {xs ys : List Value} {g' : GH} (Z : ZipG g g' z l1 l2) (hl1 : g l1 = some (.lst xs)) (hl2 : g l2 = some (.lst ys)) (hlen : xs.length = ys.length) :
    Iterable c A (.Tuple elts k pos) (.ref z) g' g xs.length (fun g => g l1 = some (.lst xs) ∧ g l2 = some (.lst ys)) (fun i v g g₂ => ∃ T x y, g T = none ∧ v = .ref T ∧ xs[i]? = some x ∧ ys[i]? = some y ∧ g₂ = upd g T (.tup [x, y])) := fun s hb hh => by
  obtain ⟨TI, TO, i1, i2, o1, o2, D, ho1, ho2, nz, nTI, nTO, n1, n2, ez, eTI, eTO, e1, e2, eo⟩ := Z.ex
  have hz : IsZip s.heap z TI TO .none := hh z _ ez
  have hTI : IsPair s.heap TI (.ref i1) (.ref i2) := hh TI _ eTI
  have hTO : IsPair s.heap TO .none .none := hh TO _ eTO
  have h1 : s.heap.get? i1 = some o1 := hh i1 _ e1
  have h2 : s.heap.get? i2 = some o2 := hh i2 _ e2
  refine wpAny_pyIter_zip hz ⟨z, fun b => b = z ∨ b = TI ∨ b = TO ∨ b = i1 ∨ b = i2, fun i h => IsZip h z TI TO .none ∧ IsPair h TI (.ref i1) (.ref i2) ∧ (∃ a b, IsPair h TO a b) ∧ h.IsListIter i1 l1 i ∧ h.IsListIter i2 l2 i, rfl, ?_, ⟨hz, hTI, ⟨_, _, hTO⟩, ⟨_, h1, ho1.1, ho1.2⟩, ⟨_, h2, ho2.1, ho2.2⟩⟩,
    fun b q => ⟨.inr ?_, ?_⟩, ⟨fun b ao q => hh b ao ?_, fun b o q n0 => ⟨q, ?_⟩, rfl, rfl⟩⟩
  · exact {
      frame := fun i h h' st kp => by
        obtain ⟨a1, a2, ⟨u, v, a3⟩, a4, a5⟩ := st
        exact ⟨kp z (.inl rfl) _ a1, kp TI (.inr (.inl rfl)) _ a2, ⟨u, v, kp TO (.inr (.inr (.inl rfl))) _ a3⟩, isIter_keep a4 (kp i1 (.inr (.inr (.inr (.inl rfl))))), isIter_keep a5 (kp i2 (.inr (.inr (.inr (.inr rfl)))))⟩
      alive := fun i h st b q => by
        obtain ⟨a1, a2, ⟨u, v, a3⟩, ⟨o4, a4, _⟩, o5, a5, _⟩ := st
        rcases q with rfl | rfl | rfl | rfl | rfl
        · exact ⟨_, a1⟩
        · exact ⟨_, a2⟩
        · exact ⟨_, a3⟩
        · exact ⟨_, a4⟩
        · exact ⟨_, a5⟩
      item := fun i g s hi st hh hoff hp => by
        obtain ⟨a1, a2, ⟨u, v, a3⟩, a4, a5⟩ := st
        have hj : i < ys.length := hlen ▸ hi
        refine wpAny_pyNext_zip_item D a1 a2 a3 a4 a5 (RepH.isList (hh l1 _ hp.1)) (RepH.isList (hh l2 _ hp.2)) (x := xs[i]) (y := ys[i]) (by simp [hi]) (by simp [hj]) fun h' hz' hTO' hi1 hi2 hT hsz hk => ⟨_, rfl, wpAny_letOwnedTupleGo_zip hz' fun h'' hz'' hs => ?_⟩
        have nN : s.heap.get? s.heap.objs.size = none := get_size_none _
        have apart : ∀ b, (b = z ∨ b = TI ∨ b = TO ∨ b = i1 ∨ b = i2) → b ≠ s.heap.objs.size := fun b q w => by
          subst w
          obtain ⟨o4, a4, _⟩ := a4
          obtain ⟨o5, a5, _⟩ := a5
          have a1' : s.heap.get? z = some _ := a1
          have a2' : s.heap.get? TI = some _ := a2
          have a3' : s.heap.get? TO = some _ := a3
          rcases q with q | q | q | q | q <;> rw [q] at nN <;> first | (rw [a1'] at nN; cases nN) | (rw [a2'] at nN; cases nN) | (rw [a3'] at nN; cases nN) | (rw [a4] at nN; cases nN) | (rw [a5] at nN; cases nN)
        have kk : ∀ b o, b ≠ z → b ≠ TO → b ≠ i1 → b ≠ i2 → s.heap.get? b = some o → h''.get? b = some o := fun b o b1 b2 b3 b4 q => (hs.2 b b1).trans (hk b o b1 b2 b3 b4 q)
        refine ⟨upd g s.heap.objs.size (.tup [xs[i], ys[i]]), ⟨fun b ao q => ?_, fun b o q n0 nf => ⟨kk b o (fun w => nf (.inl w)) (fun w => nf (.inr (.inr (.inl w)))) (fun w => nf (.inr (.inr (.inr (.inl w))))) (fun w => nf (.inr (.inr (.inr (.inr w))))) q, ?_⟩, fun b q => ?_, rfl, rfl⟩, ?_,
          _, _, _, hh.fresh nN, rfl, by simp [hi], by simp [hj], rfl⟩
        · by_cases bT : b = s.heap.objs.size
          · subst bT; rw [upd_self] at q; cases q; exact (hs.2 _ (apart z (.inl rfl)).symm).trans hT
          · rw [upd_ne bT] at q
            have off : ∀ x, (x = z ∨ x = TI ∨ x = TO ∨ x = i1 ∨ x = i2) → b ≠ x := fun x hx w => by rw [w, hoff x hx] at q; cases q
            exact RepH.keep (hh b ao q) fun o w => kk b o (off z (.inl rfl)) (off TO (.inr (.inr (.inl rfl)))) (off i1 (.inr (.inr (.inr (.inl rfl))))) (off i2 (.inr (.inr (.inr (.inr rfl))))) w
        · rw [upd_ne (by rintro rfl; rw [nN] at q; cases q)]; exact n0
        · rw [upd_ne (apart b q)]; exact hoff b q
        · refine ⟨hz'', (hs.2 _ D.TIz).trans (hk _ _ D.TIz D.TITO D.TIi1 D.TIi2 a2), ⟨_, _, (hs.2 _ D.TOz).trans hTO'⟩, isIter_keep hi1 fun o q => (hs.2 _ D.i1z).trans q, isIter_keep hi2 fun o q => (hs.2 _ D.i2z).trans q⟩
      done := fun g s st hh hoff hp => by
        obtain ⟨a1, a2, ⟨u, v, a3⟩, a4, a5⟩ := st
        refine wpAny_pyNext_zip_end hA D a1 a2 a3 a4 a5 (RepH.isList (hh l1 _ hp.1)) (RepH.isList (hh l2 _ hp.2)) (.inl (by simp)) fun h' hk => ⟨rfl, ⟨fun b ao q => ?_, fun b o q n0 nf => ⟨hk b o (fun w => nf (.inl w)) (fun w => nf (.inr (.inr (.inl w)))) (fun w => nf (.inr (.inr (.inr (.inl w))))) (fun w => nf (.inr (.inr (.inr (.inr w))))) q, n0⟩, hoff, rfl, rfl⟩⟩
        have off : ∀ x, (x = z ∨ x = TI ∨ x = TO ∨ x = i1 ∨ x = i2) → b ≠ x := fun x hx w => by rw [w, hoff x hx] at q; cases q
        exact RepH.keep (hh b ao q) fun o w => hk b o (off z (.inl rfl)) (off TO (.inr (.inr (.inl rfl)))) (off i1 (.inr (.inr (.inr (.inl rfl))))) (off i2 (.inr (.inr (.inr (.inr rfl))))) w
      self := fun i s Q st h => wpAny_pyIter_zip st.1 h }
  · rcases q with rfl | rfl | rfl | rfl | rfl
    · rw [ez]; simp
    · rw [eTI]; simp
    · rw [eTO]; simp
    · rw [e1]; simp
    · rw [e2]; simp
  · rcases q with rfl | rfl | rfl | rfl | rfl <;> first | exact nz | exact nTI | exact nTO | exact n1 | exact n2
  · rw [eo b (by rintro rfl; rw [nz] at q; cases q) (by rintro rfl; rw [nTI] at q; cases q) (by rintro rfl; rw [nTO] at q; cases q) (by rintro rfl; rw [n1] at q; cases q) (by rintro rfl; rw [n2] at q; cases q)]; exact q
  · by_cases b1 : b = z
    · subst b1; exact nz
    by_cases b2 : b = TI
    · subst b2; exact nTI
    by_cases b3 : b = TO
    · subst b3; exact nTO
    by_cases b4 : b = i1
    · subst b4; exact n1
    by_cases b5 : b = i2
    · subst b5; exact n2
    rw [← eo b b1 b2 b3 b4 b5]; exact n0
end
end
-- part G12
section
/-! ## Instances -/
structure InstG (g : GH) (x C dx : Addr) (es : List DictEntry) (n : Nat) : Prop where
  ix : g x = some (.raw (instObj C dx))
  id : g dx = some (.raw (PySem.W.dictOf es n))
  ne : x ≠ dx

section
variable {c : Cx} {F : Fm} {A : Around} {g : GH} {Q : Value → GH → Prop} {U : Unit → GH → Prop} {x C dx : Addr} {es : List DictEntry} {n : Nat} {name : Str}
theorem InstG.at_ (I : InstG g x C dx es n) {h : Heap} (hh : Has c g h) : InstAt h x (instObj C dx) C (some (PySem.W.dictOf es n)) := ⟨hh x _ I.ix, rfl, rfl, hh dx _ I.id⟩
theorem kin_at (hc : c.Ok) {h : Heap} (hb : BaseOk c h g) : c.K.In h := fun a o e => (hb a o (hc.kin a o e)).1

theorem i_get {expr : Bool} {attr : Option Value} {v : Value} (hc : c.Ok) (I : InstG g x C dx es n) (hk : PySem.W.plainGet c.K C name = true) (hd : PySem.W.hasDictIn c.K C = true) (ha : findIn c.K (.ref C) name = some attr) (hn : PySem.W.noGet c.K attr = true)
    (hl : PySem.W.getL name es = some (some v)) (hh' : handedIn v = true) (h : Q v g) : TW c F A (getAttr (.ref x) name expr) g Q := fun s hb hf hh =>
  get_value (kin_at hc hb) (I.at_ hh) (plainGet_of hk).1 (findObj_own hd ha hn (by rw [lookIn_dict]; exact hl)) hh' ⟨g, Step.toks hh _, h⟩
theorem i_meth {pl : Sem Bool} {f : Addr} {R : Value × List Value → GH → Prop} (hc : c.Ok) (I : InstG g x C dx es n) (hk : PySem.W.plainGet c.K C name = true) (hf : findIn c.K (.ref C) name = some (some (.ref f))) (ht : typeIn c.K (.ref f) = some (.type "function"))
    (hs : PySem.W.getL name es = some none) (h : R (.ref f, [.ref x]) g) : TW c F A (getMethod (.ref x) name pl) g R := fun s hb hfr hh =>
  method_fn (kin_at hc hb) (I.at_ hh) (plainGet_of hk).1 (plainGet_of hk).2 hf ht (by show (lookIn name (PySem.W.dictOf es n)).map (·.isSome) = some false; rw [lookIn_dict, hs]; rfl) ⟨g, Step.refl hh, h⟩
theorem i_set {v : Value} (hc : c.Ok) (I : InstG g x C dx es n) (hs : findIn c.K (.ref C) "__setattr__" = some (some (.builtin "object.__setattr__"))) (hp : plainOver c.K C = true) (ht : takerIn c.K C name = some none) (hd : PySem.W.hasDictIn c.K C = true)
    (hl : (PySem.W.getL name es).isSome = true) (hz : (PySem.W.putL name (PyData.keyHash c.w.params name) (.str name 0) v es).length ≤ 1000)
    (h : ∀ tk, U () (upd g dx (.raw (PySem.W.dictOf (PySem.W.putL name (PyData.keyHash c.w.params name) (.str name tk) v es) (PySem.W.putN name es n))))) : TW c F A (setAttr (.ref x) name v) g U := fun s hb hfr hh => by
  have I' := I.at_ hh
  refine set_plain (kin_at hc hb) I' hs (osa_open (s := { s with toks := s.toks + 1 }) (kin_at hc hb) I' hp ht fun b => ?_)
  obtain ⟨cd, hcl, hd'⟩ := any_some hd
  have hx : s.heap.get? x = some (instObj C dx) := hh x _ I.ix
  have D : s.heap.get? dx = some (PySem.W.dictOf es n) := hh dx _ I.id
  refine wpAny_bind (wpAny_pure (wpAny_bind (wpAny_bind (wpAny_loadPart hx (wpAny_bind (Looks.here (s := { s with toks := s.toks + 1 }) (looks_clsIn (kin_at hc hb) hcl) ?_))))))
  rw [hd']
  refine wpAny_pure (a := some dx) (wpAny_bind (wpAny_pure (wpAny_bind ?_)))
  unfold nsSet
  refine wpAny_bind (wpAny_bind (wpAny_askSetting (wpAny_pure (wpAny_bind (wpAny_mkText (wpAny_bind (wpAny_loadPart D ?_)))))))
  dsimp only
  have cc : (!es.any (·.key.isStr name) && es.any (·.refKey)) = false := by
    unfold PySem.W.getL at hl
    split at hl
    · rename_i en he
      rw [List.any_eq_true.mpr ⟨en, List.mem_of_find?_eq_some he, List.find?_some he⟩]; rfl
    · split at hl
      · cases hl
      · rename_i z; rw [Bool.not_eq_true] at z; rw [z, Bool.and_false]
  have cc' : (!es.toArray.any (·.key.isStr name) && es.toArray.any (·.refKey)) = false := by simpa using cc
  rw [aRefKeyMayBeTheName_at, cc']
  have D' : ({ s with toks := s.toks + 1 + 1 } : Shared).heap.get? dx = some (PySem.W.dictOf es n) := D
  refine wpAny_updatePart D' ?_
  have e : ∀ key, Obj.putName name (PyData.keyHash c.w.params name) key v (PySem.W.dictOf es n) = PySem.W.dictOf (PySem.W.putL name (PyData.keyHash c.w.params name) key v es) (PySem.W.putN name es n) := fun key => putName_dict ..
  have len : ∀ tk, (PySem.W.putL name (PyData.keyHash c.w.params name) (.str name tk) v es).length = (PySem.W.putL name (PyData.keyHash c.w.params name) (.str name 0) v es).length := fun tk => by
    clear hz hl cc cc' D D' I' I h e
    induction es with
    | nil => rfl
    | cons e r ih => simp only [PySem.W.putL]; split <;> simp [ih]
  have got : (s.heap.update dx (Obj.putName name (PyData.keyHash c.w.params name) (.str name (s.toks + 1)) v)).get? dx = some (PySem.W.dictOf (PySem.W.putL name (PyData.keyHash c.w.params name) (.str name (s.toks + 1)) v es) (PySem.W.putN name es n)) := by
    rw [Heap.get?_update_self _ D (by rw [e]; rfl), e]
  refine wpAny_bind (wpAny_lookBehind (s := { s with heap := s.heap.update dx (Obj.putName name (PyData.keyHash c.w.params name) (.str name (s.toks + 1)) v), toks := s.toks + 1 + 1 }) got (by exact pastItsLine_dict (by rw [List.size_toArray, len, sizeLine_eq]; lia)) ?_)
  refine wpAny_pure ?_
  exact ⟨_, Step.store (ao' := .raw _) (tk := s.toks + 1 + 1) hh I.id (Heap.SameBut.update ..) got, h _⟩

/-- C(..): a new object, filled by the text's __init__ -/
theorem i_make {args : List Value} {init : Addr} (hc : c.Ok) (hm : makesIn c.K C = true) (hi : findIn c.K (.ref C) "__init__" = some (some (.ref init))) (hf : typeIn c.K (.ref init) = some (.type "function"))
    (h : ∀ x dx, g x = none → g dx = none → x ≠ dx → ∀ s : Shared, BaseOk c s.heap (upd (upd g dx (.raw (PySem.W.dictOf [] 0))) x (.raw (instObj C dx))) → Has c (upd (upd g dx (.raw (PySem.W.dictOf [] 0))) x (.raw (instObj C dx))) s.heap →
      codeAny c.M (A.under (.builtin "type.__call__" ⟨.ref C :: args, []⟩)) (.call (.ref init) ⟨.ref x :: args, []⟩) (fun r s' => match r with | .ok (.ret v) => ∃ g', Step c s (upd (upd g dx (.raw (PySem.W.dictOf [] 0))) x (.raw (instObj C dx))) s' g' ∧ (v = .none ∧ Q (.ref x) g') | .ok _ => False | .error _ => False) s) :
    TW c F A (call (.ref C) args) g Q := fun s hb hfr hh => by
  obtain ⟨h0, gens, dd, tk, os⟩ := s
  have X : c.K.In h0 := kin_at hc hb
  have n1 : h0.get? h0.objs.size = none := get_size_none _
  have n2 : h0.get? (h0.objs.size + 1) = none := get_ge_none (Nat.le_succ _)
  have ne : h0.objs.size + 1 ≠ h0.objs.size := Nat.succ_ne_self _
  refine wpAny_call (make_core (makes_of X hm) (looks_findIn X hi) (fun self => bind_fn X self hf) (.inl rfl) ?_)
  have k1 : ∀ b o, h0.get? b = some o → ((h0.push emptyDict).push (instObj C h0.objs.size)).get? b = some o := fun b o e => Heap.get?_push_of_some _ (Heap.get?_push_of_some _ e)
  have e1 : ((h0.push emptyDict).push (instObj C h0.objs.size)).get? h0.objs.size = some emptyDict := Heap.get?_push_of_some _ (Heap.get?_push_size _ rfl)
  have e2 : ((h0.push emptyDict).push (instObj C h0.objs.size)).get? (h0.objs.size + 1) = some (instObj C h0.objs.size) := by
    have : (h0.push emptyDict).objs.size = h0.objs.size + 1 := by simp [Heap.push]
    rw [← this]; exact Heap.get?_push_size _ rfl
  have st : Step c ⟨h0, gens, dd, tk, os⟩ g ⟨(h0.push emptyDict).push (instObj C h0.objs.size), gens, dd, tk, os⟩ (upd (upd g h0.objs.size (.raw (PySem.W.dictOf [] 0))) (h0.objs.size + 1) (.raw (instObj C h0.objs.size))) := by
    refine ⟨fun b ao q => ?_, fun b o q n0 => ⟨k1 _ _ q, ?_⟩, rfl, rfl⟩
    · by_cases b1 : b = h0.objs.size + 1
      · subst b1; rw [upd_self] at q; cases q; exact e2
      · rw [upd_ne b1] at q
        by_cases b2 : b = h0.objs.size
        · subst b2; rw [upd_self] at q; cases q; exact e1
        · rw [upd_ne b2] at q; exact RepH.keep (hh b ao q) fun o z => k1 b o z
    · have b1 : b ≠ h0.objs.size + 1 := by rintro rfl; rw [n2] at q; cases q
      have b2 : b ≠ h0.objs.size := by rintro rfl; rw [n1] at q; cases q
      rw [upd_ne b1, upd_ne b2]; exact n0
  refine codeAny_mono (h (h0.objs.size + 1) h0.objs.size (hh.fresh n2) (hh.fresh n1) ne _ (hb.step st) st.has) fun r s' q => ?_
  rcases r with e | (_ | _ | _ | v) <;> first | exact q.elim | skip
  obtain ⟨g', st', rfl, q⟩ := q
  exact ⟨rfl, g', st.trans st', q⟩
theorem Room.under {k : Nat} {C : Addr} {args : List Value} (h : Room (k + 1) A) : Room k (A.under (.builtin "type.__call__" ⟨.ref C :: args, []⟩)) :=
  ⟨by rw [depth_under_make]; have := h.1; lia, by rw [units_under_make]; have := h.2.1; lia, h.2.2⟩
end
end
-- part F0
section
set_option maxHeartbeats 1000000

noncomputable def T (x : String) (v : Value) : Str × Value := (Str.ofString x, v)
noncomputable def T' (x : String) (v : Option Value) : Str × Option Value := (Str.ofString x, v)
noncomputable def mgTab : List (Str × Value) :=
  [T "FIX" (.int 0 283), T "REF" (.int 1 285), T "CHAR" (.int 2 287), T "HEADER" (.int 5 291), T "FORWARD" (.int 6 293), T "TAGS" (.int 8 295), T "TRUE" (.int 12 299), T "PAIR" (.int 0 301), T "VECTOR" (.int 1 303), T "STRING" (.int 2 305), T "CLOSURE" (.int 3 307), T "BOX" (.int 4 309), T "PROMISE" (.int 5 311), T "KINDS" (.int 16 313), T "KIND_SIZES" (.ref 81), T "HeapFull" (.ref 58), T "SchemeError" (.ref 38), T "MachineFault" (.ref 77), T "payload_of" (.ref 88), T "fix" (.ref 95), T "ref" (.ref 102), T "char_word" (.ref 109), T "header_word" (.ref 116), T "forward_word" (.ref 123), T "is_ref" (.ref 130), T "is_header" (.ref 137), T "is_forward" (.ref 144), T "header_kind" (.ref 151), T "header_length" (.ref 158), T "is_value_word" (.ref 165), T "Heap" (.ref 266), T "wrong_block" (.ref 277), T "heap_error" (.ref 284), T "moved_word" (.ref 291), T "collect" (.ref 296), T "marked" (.ref 303), T "new_places" (.ref 310), T "slid_word" (.ref 317), T "slide" (.ref 322), T "collected" (.ref 329), T "_law_pot" (.ref 334), T "_law_dip" (.ref 341), T "_law_shapes" (.ref 348), T "_law_part" (.ref 355), T "_law_parts" (.ref 360), T "_law_heap" (.ref 365), T "_law_layers" (.ref 372), T "_law_cells" (.ref 377), T "_law_is" (.ref 384), T "_law_kept" (.ref 391)]
noncomputable def noTab : List Str := ["len", "range", "list", "sorted", "sum", "int", "max", "enumerate", "zip"]
noncomputable def fnTab : List (Nat × Addr) := [(22, 88), (23, 95), (24, 102), (25, 109), (26, 116), (27, 123), (28, 130), (29, 137), (30, 144), (31, 151), (32, 158), (33, 165), (36, 277), (37, 284), (39, 291), (40, 296), (41, 303),
  (42, 310), (43, 317), (44, 322), (45, 329), (47, 334), (48, 341), (49, 348), (50, 355), (51, 360), (52, 365), (53, 372), (54, 377), (55, 384), (56, 391), (57, 396)]

noncomputable def mthTab : List ((Nat × Nat) × Addr) := [((35, 0), 179), ((35, 1), 186), ((35, 2), 193), ((35, 3), 200), ((35, 4), 207), ((35, 8), 235), ((35, 10), 249), ((2, 0), 35), ((3, 0), 55)]
noncomputable def keepTab : List Addr := [266, 58] ++ fnTab.map (·.2) ++ mthTab.map (·.2)
/-- what is found on the class Heap -/
noncomputable def heapTab : List (Str × Option Value) := [T' "__init__" (some (.ref 179)), T' "used" (some (.ref 186)), T' "is_over" (some (.ref 193)), T' "allocate" (some (.ref 200)), T' "header_at" (some (.ref 207)), T' "place_of" (some (.ref 235)),
  T' "set_field" (some (.ref 249)), T' "limit" none, T' "cells" none]

structure Facts (c : Cx) : Prop where
  ok : c.Ok
  glob : ∀ x v, mgTab.lookup x = some v → c.mg x = some v
  no : ∀ x, noTab.contains x = true → c.mg x = none
  fn : ∀ i a, fnTab.lookup i = some a → FnAt c (top i) a
  mth : ∀ i j a, mthTab.lookup (i, j) = some a → FnAt c (meth i j) a
  keep : ∀ a, keepTab.contains a = true → keepIn c.K (.ref a) = true
  fty : ∀ i j a, mthTab.lookup (i, j) = some a → typeIn c.K (.ref a) = some (.type "function")
  make : makesIn c.K 266 = true
  get : ∀ x, plainGet c.K 266 x = true
  dct : hasDictIn c.K 266 = true
  find : ∀ x v, heapTab.lookup x = some v → findIn c.K (.ref 266) x = some v
  sattr : findIn c.K (.ref 266) "__setattr__" = some (some (.builtin "object.__setattr__"))
  over : plainOver c.K 266 = true
  tlim : takerIn c.K 266 "limit" = some none
  tcel : takerIn c.K 266 "cells" = some none
  sizes : c.B.get? 81 = some { cls := .type "tuple", data := .seq #[.int 2 315, .int (-1) 317, .int (-1) 319, .int (-1) 321, .int 1 322, .int 2 323, .int 2 324, .int 2 325] }

theorem TW.part {c : Cx} {F : Fm} {A : Around} {g : GH} {e : Expr} {env : Env} {Q : Value → GH → Prop} (h : TW c F A (eval e env) g Q) : TW c F A (evalPart (some e) env) g Q := h
theorem mask_ne {cenv : Env} {ρ : Rho} {y : Str} (h : (cenv.kindOf y == some .local) = false) : maskρ cenv ρ y = ρ y := by
  unfold maskρ
  rw [if_neg]
  intro q
  rw [q] at h
  exact absurd h (by decide)
theorem Room.handled {n : Nat} {A : Around} (h : Room n A) : A.handled = none := h.2.2
theorem Room.units {n : Nat} {A : Around} (h : Room n A) : A.units + 16 * n < cLine := h.2.1
theorem Room.mono {m n : Nat} {A : Around} (h : Room m A) (e : n ≤ m) : Room n A := ⟨by have := h.1; lia, by have := h.2.1; lia, h.2.2⟩
section
variable {c : Cx} {F : Fm} {A : Around} {g : GH} {Q : Value → GH → Prop} {a b : Int} {t u : Tok}
theorem o_mod8 (hz : 0 < b) (h : ∀ t, Q (.int (a % b) t) g) : TW c F A (binaryOp .Mod (.int a t) (.int b u)) g Q := o_mod (by lia) (fun t => by rw [Int.fmod_eq_emod_of_nonneg _ (by lia)]; exact h t)
theorem o_div8 (hz : 0 < b) (h : ∀ t, Q (.int (a / b) t) g) (hs : b.natAbs < 1073741824 := by decide) : TW c F A (binaryOp .FloorDiv (.int a t) (.int b u)) g Q := o_div (by lia) (fun t => by rw [Int.fdiv_eq_ediv_of_nonneg _ (by lia)]; exact h t) hs
end
end
-- part G13
section
set_option maxHeartbeats 1000000
section
variable {c : Cx} {F : Fm} {A : Around} {g : GH} {env : Env} {Q : Value → GH → Prop}
/-- l[a:b] of any value, named or not -/
theorem e_SliceA {value : Expr} {lo hi : Option Expr} {p pos : Pos} (h : TW c F A (eval value env) g (fun o g₁ => TW c F A (evalPart lo env) g₁ (fun vl g₂ => TW c F A (evalPart hi env) g₂ (fun vu g₃ =>
      ∃ l vs a b, o = .ref l ∧ LIn c g₃ l vs ∧ vs.length ≤ sizeLine ∧ IsPart vl a ∧ IsPart vu b ∧ ∀ d, g₃ d = none → Q (.ref d) (upd g₃ d (.lst (slicePick vs.toArray a b none).toList)))))) :
    TW c F A (eval (.Subscript value (.Slice lo hi none p) pos) env) g Q := fun s hb hf hh => by
  rw [eval_Subscript]
  refine wpAny_bind (wpAny_mono (h s hb hf hh) (fun o s₁ q => ?_) fun _ _ z => z)
  obtain ⟨g₁, st₁, q⟩ := q
  refine wpAny_bind (wpAny_holding (wpAny_Slice (wpAny_mono (q s₁ (hb.step st₁) (F.st _ _ _ _ st₁.out hf) st₁.has) (fun vl s₂ q => ?_) fun _ _ z => z)))
  obtain ⟨g₂, st₂, q⟩ := q
  have st12 := st₁.trans st₂
  refine wpAny_mono (q s₂ (hb.step st12) (F.st _ _ _ _ st12.out hf) st₂.has) (fun vu s₃ q => ?_) fun _ _ z => z
  obtain ⟨g₃, st₃, l, vs, a, b, rfl, hl, hsz, pa, pb, hQ⟩ := q
  have st13 := st12.trans st₃
  have hL : s₃.heap.IsList l vs.toArray := hl _ (hb.step st13) st₃.has
  rw [evalPart_none]
  refine wpAny_pure (wpAny_bind (wpAny_standAt (tail_any (hL.push _).typeIs list_getitem_lookup (wpAny_getItem_list_slice (hL.push _) (Heap.IsSliceOf.new ..) pa pb .none (by simp) ?_ (by simpa using hsz)) rfl)))
  rw [Heap.size_push]
  have e0 : (s₃.heap.push { cls := .type "slice", data := .fields #[vl, vu, .none] }).objs.size = s₃.heap.objs.size + 1 := by simp [Heap.push]
  have fr : s₃.heap.get? (s₃.heap.objs.size + 1) = none := get_ge_none (Nat.le_succ _)
  refine ⟨_, st13.trans (Step.new (ao := .lst (slicePick vs.toArray a b none).toList) (tk := s₃.toks) st₃.has (a := s₃.heap.objs.size + 1) fr (fun b o e => Heap.get?_push_of_some _ (Heap.get?_push_of_some _ e)) ⟨0, ?_⟩), hQ _ (st₃.has.fresh fr)⟩
  rw [← e0, Heap.get?_push_size _ rfl]
end
end
-- part G14
section
set_option maxHeartbeats 1000000
section
variable {c : Cx} {F : Fm} {A : Around} {g : GH} {env : Env} {Q : Value → GH → Prop} {R : List (Value × Value) → GH → Prop}
theorem dp_nil {pos : Pos} (h : R [] g) : TW c F A (evalPairs (pairTrees [] [] env pos)) g R := fun s hb hf hh => pairTrees_nil_walk ⟨g, Step.refl hh, h⟩
theorem dp_cons {k v : Expr} {ks : List (Option Expr)} {vs : List Expr} {pos : Pos} (h : TW c F A (eval k env) g (fun kv g₁ => TW c F A (eval v env) g₁ (fun vv g₂ => TW c F A (evalPairs (pairTrees ks vs env pos)) g₂ (fun r g₃ => R ((kv, vv) :: r) g₃)))) :
    TW c F A (evalPairs (pairTrees (some k :: ks) (v :: vs) env pos)) g R := fun s hb hf hh => by
  refine pairTrees_cons_walk (wpAny_mono (h s hb hf hh) (fun kv s₁ q => ?_) fun _ _ z => z)
  obtain ⟨g₁, st₁, q⟩ := q
  refine wpAny_mono (q s₁ (hb.step st₁) (F.st _ _ _ _ st₁.out hf) st₁.has) (fun vv s₂ q => ?_) fun _ _ z => z
  obtain ⟨g₂, st₂, q⟩ := q
  have st12 := st₁.trans st₂
  refine wpAny_mono (q s₂ (hb.step st12) (F.st _ _ _ _ st12.out hf) st₂.has) (fun r s₃ q => ?_) fun _ _ z => z
  obtain ⟨g₃, st₃, q⟩ := q
  exact ⟨g₃, st12.trans st₃, q⟩
theorem e_DictC (hc : c.Ok) {keys : List (Option Expr)} {values : List Expr} {pos : Pos} (hall : keys.all (·.isSome) = true) (hl : keys.length = values.length) (h0 : keys ≠ []) (hlen : keys.length ≤ 15)
    (h : TW c F A (evalPairs (pairTrees keys values env pos)) g (fun vs g₁ => ∃ kvs, Carries (intKind c.prog c.w) vs kvs ∧ ∀ d ep, g₁ d = none → Q (.ref d) (upd g₁ d (.dic (merged [] kvs) ep)))) :
    TW c F A (eval (.Dict keys values pos) env) g Q := fun s hb hf hh => by
  have n1 : s.heap.get? s.heap.objs.size = none := get_size_none _
  have hm : (s.heap.objs.size == sysModules) = false := by
    obtain ⟨o, _, _, e, _⟩ := hc.g
    have := Heap.lt_size (hb _ _ e).1
    exact beq_eq_false_iff_ne.mpr fun q => by rw [q] at this; exact absurd this (by decide)
  obtain ⟨o0, es0, ep0, ho0, r0⟩ := Heap.DictOf.new (knd := intKind c.prog c.w) s.heap
  have st0 : Step c s g { s with heap := s.heap.push { cls := .type "dict", data := .dict #[] }, toks := s.toks } g := Step.junk hh fun b o e => Heap.get?_push_of_some _ e
  have gD : g s.heap.objs.size = none := hh.fresh n1
  refine wpAny_Dict_walk (knd := intKind c.prog c.w) hall hl h0 hlen (wpAny_mono (h _ (hb.step st0) (F.st _ _ _ _ st0.out hf) st0.has) (fun vs s₁ q => ?_) fun _ _ z => z)
  obtain ⟨g₁, st₁, kvs, hcar, hQ⟩ := q
  have hD := st₁.out _ _ ho0 gD
  refine ⟨kvs, hcar, ⟨o0, es0, ep0, hD.1, r0⟩, fun h' hD' hs' => ?_⟩
  obtain ⟨ep', hD'⟩ := Heap.DictOf.at hD'
  refine ⟨_, ⟨fun b ao e => ?_, fun b o e n => ?_, st₁.os, st₁.gens⟩, hQ s.heap.objs.size ep' hD.2⟩
  · by_cases hb' : b = s.heap.objs.size
    · subst hb'; rw [upd_self] at e; cases e; exact ⟨hD', hm⟩
    · rw [upd_ne hb'] at e; exact RepH.keep (st₁.has b ao e) fun o q => (hs'.2 b hb').trans q
  · have hb' : b ≠ s.heap.objs.size := by rintro rfl; rw [n1] at e; cases e
    obtain ⟨e0, m0⟩ := st0.out b o e n
    obtain ⟨e1, m1⟩ := st₁.out b o e0 m0
    exact ⟨(hs'.2 b hb').trans e1, (upd_ne hb').trans m1⟩
theorem x_methD {kvs : List (Int × Value)} {ep : Nat} {d : Addr} {pl : Sem Bool} {R : Value × List Value → GH → Prop} (hd : g d = some (.dic kvs ep)) (h : R (.builtin "dict.get", [.ref d]) g) : TW c F A (getMethod (.ref d) "get" pl) g R := fun s hb hf hh => by
  obtain ⟨hD, hm⟩ := hh d _ hd
  obtain ⟨o, es, ho, he, r⟩ := hD
  exact getMethod_builtin (T := "dict") ⟨_, ho, he.1⟩ PySem.F.plainAttrs_dict PySem.F.slot_dict_get PySem.F.type_dict_get (fun a q => by cases q; exact ⟨_, ho, he.2.1⟩) ⟨g, Step.refl hh, h⟩
theorem o_getDef {kvs : List (Int × Value)} {ep : Nat} {d : Addr} {a : Int} {t : Tok} {dflt : Value} (hd : g d = some (.dic kvs ep)) (h : Q ((valueAt kvs a).getD dflt) g) : TW c F A (call (.builtin "dict.get") [.ref d, .int a t, dflt]) g Q := fun s hb hf hh => by
  obtain ⟨hD, hm⟩ := hh d _ hd
  exact call_meetsIn PySem.F.slot_dict_get hD.dictOf.typeIs PySem.F.entry_dict_get (PySem.F.args_dict_get_3 _ _ _) (meets_dict_get_default (intKind c.prog c.w) d (k := a) (intKind_is _ _ _ _) hm dflt) ⟨_, hD.dictOf.mapOf, g, Step.toks hh _, h⟩
end
end
-- part G15
section
set_option maxHeartbeats 1000000
theorem ifT {C P R : Prop} [Decidable C] (h : C) (p : P) : if C then P else R := by rw [if_pos h]; exact p
theorem ifF {C P R : Prop} [Decidable C] (h : ¬ C) (p : R) : if C then P else R := by rw [if_neg h]; exact p
theorem ifS {C P R : Prop} [Decidable C] (p : C → P) (r : ¬ C → R) : if C then P else R := by split; exact p ‹_›; exact r ‹_›
/-! ## Rules that keep the terms small: a statement and the rest in one step, the ends of a loop's turn under a name -/
section
variable {c : Cx} {F : Fm} {A : Around} {g : GH} {Q : Value → GH → Prop}
theorem f_callL {st : Option Stmt} {a : Addr} {vals : List Value} {n : Nat} {name : Str} {params : Arguments} {body : List Stmt} {decs : List Expr} {ret : Option Expr} {tps : List TypeParam} {scope : Scope} {ts : Option Scope} {bind : Str} {pos : Pos} (binds : List (Str × Value))
    (hc : c.Ok) (hf : FnAt c st a) (hA : Room (n + 1) A) (hst : st = some (.FunctionDef name params body decs ret tps scope ts bind pos)) (hs : scopeOk scope = true)
    (hbind : ∀ nm qual doc pm an cd ct, bindArgs (fnOf nm qual params body scope .none .none doc pm an cd ct) ⟨vals, []⟩ = Pure.pure binds)
    (hkind : (binds.all fun y => scope.names.lookup y.1 == some .local || scope.names.lookup y.1 == some .cell) = true)
    (h : ∀ L qual cd A', let ev := fenv scope L a qual cd; EnvOk c ev → Room n A' → BW c ev A' (execs body ev) (bindR binds fun _ => none) g (fun fl ρ' g' => Q (retOf fl) g')) :
    TW c F A (call (.ref a) vals) g Q := f_call binds hc hf hA hst hs hbind hkind h
end
theorem wq {α : Type} {M : Model} {A : Around} {t : Sem α} {Q : α → Shared → Prop} {E : Value → Shared → Prop} {s : Shared} (h : ∀ (Q' : α → Shared → Prop) (E' : Value → Shared → Prop), (∀ v s, Q v s → Q' v s) → (∀ e s, E e s → E' e s) → wpAny M A t Q' E' s) : wpAny M A t Q E s :=
  h Q E (fun _ _ q => q) (fun _ _ q => q)
section
variable {c : Cx} {A : Around} {g : GH} {env : Env} {ρ : Rho} {Q : Flow → Rho → GH → Prop} {rest : List Stmt}
theorem s_one {st : Stmt} (he : EnvOk c env) (h : BW c env A (exec st env) ρ g Q) : BW c env A (execs [st] env) ρ g Q :=
  b_cons he (h.mono fun f _ _ q => by cases f <;> first | exact q | exact b_nil q)
theorem s_cons {st : Stmt} (he : EnvOk c env) (h : ∀ Qk : Flow → Rho → GH → Prop, (∀ (ρ : Rho) (g : GH), BW c env A (execs rest env) ρ g Q → Qk .next ρ g) → (∀ (v : Value) (ρ : Rho) (g : GH), Q (.ret v) ρ g → Qk (.ret v) ρ g) → BW c env A (exec st env) ρ g Qk) :
    BW c env A (execs (st :: rest) env) ρ g Q := b_cons he (h _ (fun _ _ q => q) (fun _ _ _ q => q))
theorem s_Return {e : Expr} {pos : Pos} (he : EnvOk c env) (h : TW c (Fm.fr env ρ) A (eval e env) g (fun v g' => Q (.ret v) ρ g')) : BW c env A (execs (.Return (some e) pos :: rest) env) ρ g Q := b_cons he (b_Return he h)
theorem s_Expr {e : Expr} {pos : Pos} (he : EnvOk c env) (h : TW c (Fm.fr env ρ) A (eval e env) g (fun v g' => (∀ a, v ≠ .ref a) ∧ BW c env A (execs rest env) ρ g' Q)) (hi : interactive env = false := by rfl) (hs : swapsWith e none pos.line env = Pure.pure false := by rfl) :
    BW c env A (execs (.Expr e pos :: rest) env) ρ g Q := b_cons he (b_Expr he h hi hs)
theorem s_AssignL {x : Str} {pos' pos : Pos} {e : Expr} (he : EnvOk c env) (hl : env.kindOf x = some .local) (h : TW c (Fm.fr env ρ) A (eval e env) g (fun v g' => BW c env A (execs rest env) (setv ρ x v) g' Q)) (hs : swapsWith e (some (.Name x pos')) pos.line env = Pure.pure false := by rfl) :
    BW c env A (execs (.Assign [.Name x pos'] e pos :: rest) env) ρ g Q := b_cons he (b_AssignL he hl h hs)
theorem s_AssignC {x : Str} {pos' pos : Pos} {e : Expr} {a : Addr} (he : EnvOk c env) (hfn : env.func.isSome = true) (hl : env.kindOf x = some .cell) (ha : env.cells.lookup x = some a) (h : TW c (Fm.fr env ρ) A (eval e env) g (fun v g' => BW c env A (execs rest env) (setv ρ x v) g' Q)) (hs : swapsWith e (some (.Name x pos')) pos.line env = Pure.pure false := by rfl) :
    BW c env A (execs (.Assign [.Name x pos'] e pos :: rest) env) ρ g Q := b_cons he (b_AssignC he hfn hl ha h hs)
theorem s_AssignT {elts : List Expr} {k : Nat} {tpos pos : Pos} {e : Expr} (he : EnvOk c env) (h : TW c (Fm.fr env ρ) A (eval e env) g (fun v g' => BW c env A (assign (.Tuple elts k tpos) env v) ρ g' (fun _ ρ' g' => BW c env A (execs rest env) ρ' g' Q)))
    (hs : swapsWithSole [.Tuple elts k tpos] e pos.line env = Pure.pure false := by rfl) (hw : swappedStores [.Tuple elts k tpos] e env = Pure.pure none := by rfl) : BW c env A (execs (.Assign [.Tuple elts k tpos] e pos :: rest) env) ρ g Q := b_cons he (b_AssignT he h hs hw)
theorem s_AssignSw {elts : List Expr} {k : Nat} {tpos pos : Pos} {e : Expr} {names : List Str} (he : EnvOk c env) (hA : A.handled = none)
    (h : TW c (Fm.fr env ρ) A (eval e env) g (fun v g' => ∃ T vs, v = .ref T ∧ g' T = some (.tup vs) ∧ names.length = vs.length ∧ BW c env A (assignInOrder (names.reverse.map fun n => PySem.bindName env n) vs.reverse) ρ g' (fun _ ρ' g' => BW c env A (execs rest env) ρ' g' Q)))
    (hs : swapsWithSole [.Tuple elts k tpos] e pos.line env = Pure.pure false := by rfl) (hw : swappedStores [.Tuple elts k tpos] e env = Pure.pure (some names) := by rfl) : BW c env A (execs (.Assign [.Tuple elts k tpos] e pos :: rest) env) ρ g Q := b_cons he (b_AssignSw he hA h hs hw)
theorem s_AssignSub {o i : Expr} {pos' pos : Pos} {e : Expr} (he : EnvOk c env) (h : TW c (Fm.fr env ρ) A (eval e env) g (fun v g₁ => TW c (Fm.fr env ρ) A (eval o env) g₁ (fun ov g₂ => TW c (Fm.fr env ρ) A (eval i env) g₂ (fun iv g₃ =>
      TW c (Fm.fr env ρ) A (setItem ov iv v) g₃ (fun _ g₄ => BW c env A (execs rest env) ρ g₄ Q))))) (hs : swapsWith e (some (.Subscript o i pos')) pos.line env = Pure.pure false := by rfl) :
    BW c env A (execs (.Assign [.Subscript o i pos'] e pos :: rest) env) ρ g Q := b_cons he (b_AssignSub he h hs)
theorem s_AssignAttr {o : Expr} {at' : Str} {pos' pos : Pos} {e : Expr} (he : EnvOk c env) (h : TW c (Fm.fr env ρ) A (eval e env) g (fun v g₁ => TW c (Fm.fr env ρ) A (eval o env) g₁ (fun ov g₂ => TW c (Fm.fr env ρ) A (setAttr ov at' v) g₂ (fun _ g₄ => BW c env A (execs rest env) ρ g₄ Q))))
    (hs : swapsWith e (some (.Attribute o at' pos')) pos.line env = Pure.pure false := by rfl) : BW c env A (execs (.Assign [.Attribute o at' pos'] e pos :: rest) env) ρ g Q := b_cons he (b_AssignAttr he h hs)
theorem s_AssignComp {y : Str} {py spos : Pos} {elt target iter : Expr} {scope : Scope} {pos : Pos} (he : EnvOk c env) (hk : compOk scope env = true) (hy : env.kindOf y = some .local)
    (hsw : swapsWith (.ListComp elt [⟨target, iter, [], 0⟩] scope pos) (some (.Name y py)) spos.line env = Pure.pure true)
    (h : TW c (Fm.fr env ρ) A (eval iter env) g (fun x g₁ => CompV c A env scope target elt ρ x g₁ (fun D g' => BW c env A (execs rest env) (setv ρ y (.ref D)) g' Q)))
    (hs : ∀ x, foldedSetIterable iter env x = Pure.pure x := by intro _; rfl) : BW c env A (execs (.Assign [.Name y py] (.ListComp elt [⟨target, iter, [], 0⟩] scope pos) spos :: rest) env) ρ g Q := b_cons he (b_AssignComp he hk hy hsw h hs)
theorem forV_q {target : Expr} {x : Value} {body : List Stmt} {n : Nat} {Pre : GH → Prop} {Item : Nat → Value → GH → GH → Prop} {g' : GH} (he : EnvOk c env) (X : Iterable c A target x g g' n Pre Item) (Inv : Nat → Rho → GH → Prop)
    (hPre : ∀ i ρ g, Inv i ρ g → Pre g) (h0 : Inv 0 ρ g')
    (turn : ∀ i v ρ g g₂ (Qb : Flow → Rho → GH → Prop), (∀ ρ' g', Inv (i + 1) ρ' g' → Qb .next ρ' g') → (∀ v ρ' g', Q (.ret v) ρ' g' → Qb (.ret v) ρ' g') →
      i < n → Inv i ρ g → Item i v g g₂ → BW c env A (assign target env v) ρ g₂ (fun _ ρ₁ g₁ => BW c env A (execs body env) ρ₁ g₁ Qb))
    (fin : ∀ ρ g, Inv n ρ g → Q .next ρ g) : ForV c env A target x body ρ g Q :=
  forV_of he X Inv hPre h0 (fun i v ρ g g₂ hi hI ht => turn i v ρ g g₂ _ (fun _ _ q => q) (fun _ _ _ q => q) hi hI ht) fin
theorem comp_q {elt target : Expr} {scope : Scope} {x : Value} {K : Addr → GH → Prop} {n : Nat} {Pre : GH → Prop} {Item : Nat → Value → GH → GH → Prop} {g' : GH} (Inv : Nat → List Value → GH → Prop) (X : Iterable c A target x g g' n Pre Item) (hz : n ≤ sizeLine)
    (hPre : ∀ i ys g, Inv i ys g → Pre g) (h0 : Inv 0 [] g')
    (turn : ∀ i ys v g g₂ (Kb : Value → GH → Prop), (∀ y g₄, Inv (i + 1) (ys ++ [y]) g₄ → Kb y g₄) → i < n → ys.length = i → Inv i ys g → Item i v g g₂ → CompTurn c A env scope target elt ρ v g₂ Kb)
    (fin : ∀ ys g' D, ys.length = n → Inv n ys g' → g' D = none → K D (upd g' D (.lst ys))) : CompV c A env scope target elt ρ x g K :=
  ⟨⟨_, _, _, _, Inv, X, hz, hPre, h0, fun i ys v g g₂ hi hl hI ht => turn i ys v g g₂ _ (fun _ _ q => q) hi hl hI ht, fin⟩⟩
theorem while_q {t : Expr} {body orelse : List Stmt} {pos : Pos} (he : EnvOk c env) (I : Nat → Rho → GH → Prop)
    (turn : ∀ n ρ g (Qb : Flow → Rho → GH → Prop), (∀ m ρ' g', m < n → I m ρ' g' → Qb .next ρ' g') → (∀ v ρ' g', Q (.ret v) ρ' g' → Qb (.ret v) ρ' g') →
      I n ρ g → TW c (Fm.fr env ρ) A (isTrue t env (eval t env)) g (fun z g₁ => if z then BW c env A (execs body env) ρ g₁ Qb else BW c env A (execs orelse env) ρ g₁ Q))
    (n : Nat) (h : I n ρ g) : BW c env A (exec (.While t body orelse pos) env) ρ g Q :=
  b_While he I (fun n ρ g hI => turn n ρ g _ (fun m _ _ l q => ⟨m, l, q⟩) (fun _ _ _ q => q) hI) n h
end
end
-- part H3
section
set_option maxRecDepth 100000
theorem mg_some {K : Frag} {h : Heap} {mg : Str → Option Value} (X : K.In h) (hn : h.Ns 3 mg) {x : Str} {v : Value} (e : nsIn K 3 x = some (some v)) : mg x = some v := by
  obtain ⟨o, es, ep, ho, hd, _, hm⟩ := hn
  unfold nsIn at e
  split at e
  · rename_i c' d es' n sl hk
    have := X _ _ hk
    rw [ho] at this
    cases this
    cases hd
    rw [← hm]
    unfold nsFind findBy
    rw [← Array.find?_toList]
    split at e
    · rename_i en he; cases e; rw [he]; rfl
    · split at e <;> cases e
  · cases e
theorem mg_none {K : Frag} {h : Heap} {mg : Str → Option Value} (X : K.In h) (hn : h.Ns 3 mg) {x : Str} (e : nsIn K 3 x = some none) : mg x = none := by
  obtain ⟨o, es, ep, ho, hd, _, hm⟩ := hn
  unfold nsIn at e
  split at e
  · rename_i c' d es' n sl hk
    have := X _ _ hk
    rw [ho] at this
    cases this
    cases hd
    rw [← hm]
    unfold nsFind findBy
    rw [← Array.find?_toList]
    split at e
    · cases e
    · rename_i he
      rw [he]; rfl
  · cases e
theorem lookup_all {α β : Type} [BEq α] [LawfulBEq α] (P : α → β → Prop) : ∀ (l : List (α × β)), (∀ p ∈ l, P p.1 p.2) → ∀ x v, l.lookup x = some v → P x v
  | [], _, x, v, e => by cases e
  | (a, b) :: r, h, x, v, e => by
    rw [List.lookup_cons] at e
    split at e
    · rename_i q; cases e; rw [eq_of_beq q]; exact h _ (.head _)
    · exact lookup_all P r (fun p hp => h p (.tail _ hp)) x v e
end
-- part HK
section
set_option maxRecDepth 100000
/-- a def's object, by its statement -/
noncomputable def fo (st : Option Stmt) (qual : Str) (pm : Value) (cd : Addr) : Obj := match st with
  | some (.FunctionDef name params body _ _ _ scope _ _ _) => { cls := .type "function", data := .func (fnOf name qual params body scope .none .none .none pm none (.ref cd) .none) }
  | _ => default
noncomputable def co (n q : Str) (t : Nat) (ln na fl : Int) (b : Addr) (mid : List Value) (t4 : Nat) : Obj :=
  { cls := .type "code", data := .fields (List.toArray ((([.str n t, .str q (t + 1), .str "/claim/cut.py" (t + 2), .int ln 0, .int na 0, .int 0 0, .int 0 0, .int fl 0, .ref b, .bool true, .int 181 0, .ref (b + 1), .none] : List Value) ++ mid) ++ ([.int t4 0, .int ln 0, .str "/claim/cut.py" (t4 + 1)] : List Value))) }
noncomputable def en (P : Params) (l : List (Str × Nat × Value)) : Array DictEntry := (l.map fun x => ⟨PyData.keyHash P x.1, .str x.1 x.2.1, x.2.2⟩).toArray
noncomputable abbrev e3 (x : Str) (t : Nat) (v : Value) : Str × Nat × Value := (x, t, v)
noncomputable abbrev ob (a : Addr) (o : Obj) : Addr × Obj := (a, o)
noncomputable def K (P : Params) : Frag := [
  ob 2 { cls := .none, data := .dict (en P [e3 "type.__subclasses__.Exception.0" 223 (.int 38 0), e3 "type.__subclasses__.Exception.n" 224 (.int 2 0), e3 "type.__subclasses__.Exception.1" 277 (.int 77 0)]) 3 },
  ob 3 { cls := .type "dict", data := .dict (en P [e3 "__name__" 165 (.str "law_nt0174_01" 643), e3 "__doc__" 166 .none, e3 "__package__" 167 .none, e3 "__loader__" 168 (.builtin "__main__.__loader__#opaque"), e3 "__spec__" 169 .none, e3 "__annotations__" 170 (.ref 6), e3 "__builtins__" 171 (.ref 4), e3 "__file__" 173 (.str "/claim/cut.py" 172), e3 "__cached__" 174 .none, e3 "_wall" 193 (.ref 21), e3 "SchemeError" 226 (.ref 38), e3 "HeapFull" 251 (.ref 58), e3 "MachineFault" 280 (.ref 77), e3 "FIX" 284 (.int 0 283), e3 "REF" 286 (.int 1 285), e3 "CHAR" 288 (.int 2 287), e3 "CONSTANT" 290 (.int 4 289), e3 "HEADER" 292 (.int 5 291), e3 "FORWARD" 294 (.int 6 293), e3 "TAGS" 296 (.int 8 295), e3 "TRUE" 300 (.int 12 299), e3 "PAIR" 302 (.int 0 301), e3 "VECTOR" 304 (.int 1 303), e3 "STRING" 306 (.int 2 305), e3 "CLOSURE" 308 (.int 3 307), e3 "BOX" 310 (.int 4 309), e3 "PROMISE" 312 (.int 5 311), e3 "KINDS" 314 (.int 16 313), e3 "KIND_SIZES" 326 (.ref 81), e3 "payload_of" 333 (.ref 88), e3 "fix" 340 (.ref 95), e3 "ref" 347 (.ref 102), e3 "char_word" 354 (.ref 109), e3 "header_word" 362 (.ref 116), e3 "forward_word" 369 (.ref 123), e3 "is_ref" 376 (.ref 130), e3 "is_header" 383 (.ref 137), e3 "is_forward" 390 (.ref 144), e3 "header_kind" 397 (.ref 151), e3 "header_length" 404 (.ref 158), e3 "is_value_word" 412 (.ref 165), e3 "Heap" 548 (.ref 266), e3 "wrong_block" 562 (.ref 277), e3 "heap_error" 573 (.ref 284), e3 "moved_word" 587 (.ref 291), e3 "collect" 593 (.ref 296), e3 "marked" 606 (.ref 303), e3 "new_places" 617 (.ref 310), e3 "slid_word" 625 (.ref 317), e3 "slide" 631 (.ref 322), e3 "collected" 642 (.ref 329), e3 "_law_pot" 650 (.ref 334), e3 "_law_dip" 659 (.ref 341), e3 "_law_shapes" 670 (.ref 348), e3 "_law_part" 679 (.ref 355), e3 "_law_parts" 685 (.ref 360), e3 "_law_heap" 691 (.ref 365), e3 "_law_layers" 703 (.ref 372), e3 "_law_cells" 709 (.ref 377), e3 "_law_is" 717 (.ref 384), e3 "_law_kept" 729 (.ref 391), e3 "law" 735 (.ref 396)]) 62 },
  ob 34 (co "__init__" "SchemeError.__init__" 208 7 3 3 29 [.ref 31, .ref 32, .ref 33] 214),
  ob 35 (fo (meth 2 0) "SchemeError.__init__" (.str "scheme.errors" 194) 34),
  ob 37 { cls := .type "dict", data := .dict (en P [e3 "__module__" 203 (.str "scheme.errors" 194), e3 "__firstlineno__" 207 (.int 5 206), e3 "__init__" 216 (.ref 35), e3 "__static_attributes__" 219 (.ref 36), e3 "__weakref__" 221 (.ref 39), e3 "__doc__" 222 .none]) 3 },
  ob 38 { cls := .type "type", data := .cls { name := "SchemeError", bases := [.type "Exception"], mro := [.ref 38, .type "Exception", .type "BaseException", .type "object"], ns := 37, qualname := "SchemeError", hasDict := true, slotNames := [], subclasses := [.ref 58], abstract := false, collection := none, hasDel := false }, slots := #[some (.ref 22), none, some (.str "SchemeError" 196), some (.str "SchemeError" 204), some (.builtin "Exception.__new__"), some (.bool true)] },
  ob 54 (co "__init__" "HeapFull.__init__" 239 12 2 3 49 [.ref 51, .ref 52, .ref 53] 244),
  ob 55 (fo (meth 3 0) "HeapFull.__init__" (.str "scheme.errors" 194) 54),
  ob 57 { cls := .type "dict", data := .dict (en P [e3 "__module__" 234 (.str "scheme.errors" 194), e3 "__firstlineno__" 238 (.int 10 237), e3 "__init__" 246 (.ref 55), e3 "__static_attributes__" 248 (.ref 56), e3 "__doc__" 249 .none]) 2 },
  ob 58 { cls := .type "type", data := .cls { name := "HeapFull", bases := [.ref 38], mro := [.ref 58, .ref 38, .type "Exception", .type "BaseException", .type "object"], ns := 57, qualname := "HeapFull", hasDict := true, slotNames := [], subclasses := [], abstract := false, collection := none, hasDel := false }, slots := #[some (.ref 42), none, some (.str "HeapFull" 227), some (.str "HeapFull" 235), some (.builtin "Exception.__new__"), some (.bool true)] },
  ob 81 { cls := .type "tuple", data := .seq #[.int 2 315, .int (-1) 317, .int (-1) 319, .int (-1) 321, .int 1 322, .int 2 323, .int 2 324, .int 2 325] 0 },
  ob 87 (co "payload_of" "payload_of" 327 36 1 3 82 [.ref 84, .ref 85, .ref 86] 331),
  ob 88 (fo (top 22) "payload_of" (.str "scheme.words" 281) 87),
  ob 94 (co "fix" "fix" 334 38 1 3 89 [.ref 91, .ref 92, .ref 93] 338),
  ob 95 (fo (top 23) "fix" (.str "scheme.words" 281) 94),
  ob 101 (co "ref" "ref" 341 40 1 3 96 [.ref 98, .ref 99, .ref 100] 345),
  ob 102 (fo (top 24) "ref" (.str "scheme.words" 281) 101),
  ob 108 (co "char_word" "char_word" 348 42 1 3 103 [.ref 105, .ref 106, .ref 107] 352),
  ob 109 (fo (top 25) "char_word" (.str "scheme.words" 281) 108),
  ob 115 (co "header_word" "header_word" 355 44 2 3 110 [.ref 112, .ref 113, .ref 114] 360),
  ob 116 (fo (top 26) "header_word" (.str "scheme.words" 281) 115),
  ob 122 (co "forward_word" "forward_word" 363 46 1 3 117 [.ref 119, .ref 120, .ref 121] 367),
  ob 123 (fo (top 27) "forward_word" (.str "scheme.words" 281) 122),
  ob 129 (co "is_ref" "is_ref" 370 48 1 3 124 [.ref 126, .ref 127, .ref 128] 374),
  ob 130 (fo (top 28) "is_ref" (.str "scheme.words" 281) 129),
  ob 136 (co "is_header" "is_header" 377 50 1 3 131 [.ref 133, .ref 134, .ref 135] 381),
  ob 137 (fo (top 29) "is_header" (.str "scheme.words" 281) 136),
  ob 143 (co "is_forward" "is_forward" 384 52 1 3 138 [.ref 140, .ref 141, .ref 142] 388),
  ob 144 (fo (top 30) "is_forward" (.str "scheme.words" 281) 143),
  ob 150 (co "header_kind" "header_kind" 391 54 1 3 145 [.ref 147, .ref 148, .ref 149] 395),
  ob 151 (fo (top 31) "header_kind" (.str "scheme.words" 281) 150),
  ob 157 (co "header_length" "header_length" 398 56 1 3 152 [.ref 154, .ref 155, .ref 156] 402),
  ob 158 (fo (top 32) "header_length" (.str "scheme.words" 281) 157),
  ob 164 (co "is_value_word" "is_value_word" 405 58 1 3 159 [.ref 161, .ref 162, .ref 163] 410),
  ob 165 (fo (top 33) "is_value_word" (.str "scheme.words" 281) 164),
  ob 178 (co "__init__" "Heap.__init__" 427 64 2 3 173 [.ref 175, .ref 176, .ref 177] 432),
  ob 179 (fo (meth 35 0) "Heap.__init__" (.str "scheme.heap" 413) 178),
  ob 185 (co "used" "Heap.used" 435 68 1 3 180 [.ref 182, .ref 183, .ref 184] 439),
  ob 186 (fo (meth 35 1) "Heap.used" (.str "scheme.heap" 413) 185),
  ob 192 (co "is_over" "Heap.is_over" 442 71 1 3 187 [.ref 189, .ref 190, .ref 191] 446),
  ob 193 (fo (meth 35 2) "Heap.is_over" (.str "scheme.heap" 413) 192),
  ob 199 (co "allocate" "Heap.allocate" 449 74 3 3 194 [.ref 196, .ref 197, .ref 198] 456),
  ob 200 (fo (meth 35 3) "Heap.allocate" (.str "scheme.heap" 413) 199),
  ob 206 (co "header_at" "Heap.header_at" 459 80 2 3 201 [.ref 203, .ref 204, .ref 205] 465),
  ob 207 (fo (meth 35 4) "Heap.header_at" (.str "scheme.heap" 413) 206),
  ob 234 (co "place_of" "Heap.place_of" 493 97 3 3 229 [.ref 231, .ref 232, .ref 233] 499),
  ob 235 (fo (meth 35 8) "Heap.place_of" (.str "scheme.heap" 413) 234),
  ob 248 (co "set_field" "Heap.set_field" 511 105 4 3 243 [.ref 245, .ref 246, .ref 247] 518),
  ob 249 (fo (meth 35 10) "Heap.set_field" (.str "scheme.heap" 413) 248),
  ob 265 { cls := .type "dict", data := .dict (en P [e3 "__module__" 422 (.str "scheme.heap" 413), e3 "__firstlineno__" 426 (.int 62 425), e3 "__init__" 434 (.ref 179), e3 "used" 441 (.ref 186), e3 "is_over" 448 (.ref 193), e3 "allocate" 458 (.ref 200), e3 "header_at" 467 (.ref 207), e3 "kind_of" 475 (.ref 214), e3 "length_of" 483 (.ref 221), e3 "is_kind" 492 (.ref 228), e3 "place_of" 501 (.ref 235), e3 "field" 510 (.ref 242), e3 "set_field" 520 (.ref 249), e3 "fields" 529 (.ref 256), e3 "cons" 538 (.ref 263), e3 "__static_attributes__" 541 (.ref 264), e3 "__dict__" 543 (.ref 267), e3 "__weakref__" 545 (.ref 268), e3 "__doc__" 546 .none]) 4 },
  ob 266 { cls := .type "type", data := .cls { name := "Heap", bases := [.type "object"], mro := [.ref 266, .type "object"], ns := 265, qualname := "Heap", hasDict := true, slotNames := [], subclasses := [], abstract := false, collection := none, hasDel := false }, slots := #[none, none, some (.str "Heap" 415), some (.str "Heap" 423), some (.builtin "object.__new__"), some (.bool true)] },
  ob 276 (co "wrong_block" "wrong_block" 549 114 3 3 271 [.ref 273, .ref 274, .ref 275] 560),
  ob 277 (fo (top 36) "wrong_block" (.str "scheme.heap" 413) 276),
  ob 283 (co "heap_error" "heap_error" 563 130 1 3 278 [.ref 280, .ref 281, .ref 282] 571),
  ob 284 (fo (top 37) "heap_error" (.str "scheme.heap" 413) 283),
  ob 290 (co "moved_word" "moved_word" 576 144 3 3 285 [.ref 287, .ref 288, .ref 289] 585),
  ob 291 (fo (top 39) "moved_word" (.str "scheme.collect" 574) 290),
  ob 295 (co "collect" "collect" 588 155 2 3 292 [.none, .none, .ref 294] 591),
  ob 296 (fo (top 40) "collect" (.str "scheme.collect" 574) 295),
  ob 302 (co "marked" "marked" 594 165 2 3 297 [.ref 299, .ref 300, .ref 301] 604),
  ob 303 (fo (top 41) "marked" (.str "scheme.collect" 574) 302),
  ob 309 (co "new_places" "new_places" 607 180 2 3 304 [.ref 306, .ref 307, .ref 308] 615),
  ob 310 (fo (top 42) "new_places" (.str "scheme.collect" 574) 309),
  ob 316 (co "slid_word" "slid_word" 618 187 2 3 311 [.ref 313, .ref 314, .ref 315] 623),
  ob 317 (fo (top 43) "slid_word" (.str "scheme.collect" 574) 316),
  ob 321 (co "slide" "slide" 626 189 2 3 318 [.none, .none, .ref 320] 629),
  ob 322 (fo (top 44) "slide" (.str "scheme.collect" 574) 321),
  ob 328 (co "collected" "collected" 632 198 3 3 323 [.ref 325, .ref 326, .ref 327] 640),
  ob 329 (fo (top 45) "collected" (.str "scheme.collect" 574) 328),
  ob 333 (co "_law_pot" "_law_pot" 645 204 1 3 330 [.none, .none, .ref 332] 648),
  ob 334 (fo (top 47) "_law_pot" (.str "law_nt0174_01" 643) 333),
  ob 340 (co "_law_dip" "_law_dip" 651 206 2 3 335 [.ref 337, .ref 338, .ref 339] 657),
  ob 341 (fo (top 48) "_law_dip" (.str "law_nt0174_01" 643) 340),
  ob 347 (co "_law_shapes" "_law_shapes" 660 213 1 3 342 [.ref 344, .ref 345, .ref 346] 668),
  ob 348 (fo (top 49) "_law_shapes" (.str "law_nt0174_01" 643) 347),
  ob 354 (co "_law_part" "_law_part" 671 220 2 3 349 [.ref 351, .ref 352, .ref 353] 677),
  ob 355 (fo (top 50) "_law_part" (.str "law_nt0174_01" 643) 354),
  ob 359 (co "_law_parts" "_law_parts" 680 225 2 3 356 [.none, .none, .ref 358] 683),
  ob 360 (fo (top 51) "_law_parts" (.str "law_nt0174_01" 643) 359),
  ob 364 (co "_law_heap" "_law_heap" 686 233 3 3 361 [.none, .none, .ref 363] 689),
  ob 365 (fo (top 52) "_law_heap" (.str "law_nt0174_01" 643) 364),
  ob 371 (co "_law_layers" "_law_layers" 692 240 2 3 366 [.ref 368, .ref 369, .ref 370] 701),
  ob 372 (fo (top 53) "_law_layers" (.str "law_nt0174_01" 643) 371),
  ob 376 (co "_law_cells" "_law_cells" 704 252 4 3 373 [.none, .none, .ref 375] 707),
  ob 377 (fo (top 54) "_law_cells" (.str "law_nt0174_01" 643) 376),
  ob 383 (co "_law_is" "_law_is" 710 262 2 3 378 [.ref 380, .ref 381, .ref 382] 715),
  ob 384 (fo (top 55) "_law_is" (.str "law_nt0174_01" 643) 383),
  ob 390 (co "_law_kept" "_law_kept" 718 264 3 3 385 [.ref 387, .ref 388, .ref 389] 727),
  ob 391 (fo (top 56) "_law_kept" (.str "law_nt0174_01" 643) 390),
  ob 395 (co "law" "law" 730 270 1 3 392 [.none, .none, .ref 394] 733),
  ob 396 (fo (top 57) "law" (.str "law_nt0174_01" 643) 395)]
noncomputable def kas : List Addr := [2, 3, 34, 35, 37, 38, 54, 55, 57, 58, 81, 87, 88, 94, 95, 101, 102, 108, 109, 115, 116, 122, 123, 129, 130, 136, 137, 143, 144, 150, 151, 157, 158, 164, 165, 178, 179, 185, 186, 192, 193, 199, 200, 206, 207, 234, 235, 248, 249, 265, 266, 276, 277, 283, 284, 290, 291, 295, 296, 302, 303, 309, 310, 316, 317, 321, 322, 328, 329, 333, 334, 340, 341, 347, 348, 354, 355, 359, 360, 364, 365, 371, 372, 376, 377, 383, 384, 390, 391, 395, 396]
theorem kas_eq (P : Params) : kas = (K P).map (·.1) := by kernel_rfl
end
-- part HS
section
set_option maxRecDepth 100000
/-! ## The heap behind some statements of the top -/
noncomputable def treeL : Nat → BT → List Obj → BT
  | _, t, [] => t
  | n, t, o :: r => treeL (n + 1) (t.ins n o) r
noncomputable def tu (vs : List Value) : Obj := { cls := .type "tuple", data := .seq vs.toArray }
noncomputable def fs (c : Value) (vs : List Value) : Obj := { cls := c, data := .fields vs.toArray }
/-- a def's code, kept beside its code object -/
noncomputable def fi (st : Option Stmt) (qual : Str) : Obj := match st with
  | some (.FunctionDef name params body _ _ _ scope _ _ _) => { cls := .none, data := .func { name, qualname := qual, params, body := .stmts body, scope, globals := 0, closure := [], defaults := .none, kwdefaults := .none } }
  | _ => default
noncomputable def mainE : List (Str × Nat × Value) := [
  e3 "__doc__" 166 .none, e3 "__package__" 167 .none, e3 "__loader__" 168 (.builtin "__main__.__loader__#opaque"), e3 "__spec__" 169 .none, e3 "__annotations__" 170 (.ref 6), e3 "__builtins__" 171 (.ref 4),
  e3 "__file__" 173 (.str "/claim/cut.py" 172), e3 "__cached__" 174 .none, e3 "_wall" 193 (.ref 21), e3 "SchemeError" 226 (.ref 38), e3 "HeapFull" 251 (.ref 58), e3 "MachineFault" 280 (.ref 77),
  e3 "FIX" 284 (.int 0 283), e3 "REF" 286 (.int 1 285), e3 "CHAR" 288 (.int 2 287), e3 "CONSTANT" 290 (.int 4 289), e3 "HEADER" 292 (.int 5 291), e3 "FORWARD" 294 (.int 6 293),
  e3 "TAGS" 296 (.int 8 295), e3 "TRUE" 300 (.int 12 299), e3 "PAIR" 302 (.int 0 301), e3 "VECTOR" 304 (.int 1 303), e3 "STRING" 306 (.int 2 305), e3 "CLOSURE" 308 (.int 3 307),
  e3 "BOX" 310 (.int 4 309), e3 "PROMISE" 312 (.int 5 311), e3 "KINDS" 314 (.int 16 313), e3 "KIND_SIZES" 326 (.ref 81), e3 "payload_of" 333 (.ref 88), e3 "fix" 340 (.ref 95),
  e3 "ref" 347 (.ref 102), e3 "char_word" 354 (.ref 109), e3 "header_word" 362 (.ref 116), e3 "forward_word" 369 (.ref 123), e3 "is_ref" 376 (.ref 130), e3 "is_header" 383 (.ref 137),
  e3 "is_forward" 390 (.ref 144), e3 "header_kind" 397 (.ref 151), e3 "header_length" 404 (.ref 158), e3 "is_value_word" 412 (.ref 165), e3 "Heap" 548 (.ref 266), e3 "wrong_block" 562 (.ref 277),
  e3 "heap_error" 573 (.ref 284), e3 "moved_word" 587 (.ref 291), e3 "collect" 593 (.ref 296), e3 "marked" 606 (.ref 303), e3 "new_places" 617 (.ref 310), e3 "slid_word" 625 (.ref 317),
  e3 "slide" 631 (.ref 322), e3 "collected" 642 (.ref 329), e3 "_law_pot" 650 (.ref 334), e3 "_law_dip" 659 (.ref 341), e3 "_law_shapes" 670 (.ref 348), e3 "_law_part" 679 (.ref 355),
  e3 "_law_parts" 685 (.ref 360), e3 "_law_heap" 691 (.ref 365), e3 "_law_layers" 703 (.ref 372), e3 "_law_cells" 709 (.ref 377), e3 "_law_is" 717 (.ref 384), e3 "_law_kept" 729 (.ref 391),
  e3 "law" 735 (.ref 396)]
noncomputable def o3 (P : Params) (n : Nat) (nm : Value) : Obj := { cls := .type "dict", data := .dict (en P (((("__name__", 165, nm) : Str × Nat × Value) :: mainE).take n)) n }
noncomputable def m12 : List Value := [.int 1 0, .int 0 0, .ref 20, .int 5 0, .int 0 0, .ref 27, .int 10 0, .int 0 0, .ref 47, .int 15 0, .int 0 0, .ref 66, .int 36 0, .int 0 0, .ref 87, .int 38 0, .int 0 0, .ref 94, .int 40 0, .int 0 0, .ref 101, .int 42 0, .int 0 0, .ref 108, .int 44 0, .int 0 0, .ref 115, .int 46 0, .int 0 0, .ref 122, .int 48 0, .int 0 0, .ref 129, .int 50 0, .int 0 0, .ref 136, .int 52 0, .int 0 0, .ref 143, .int 54 0, .int 0 0, .ref 150, .int 56 0, .int 0 0, .ref 157, .int 58 0, .int 0 0, .ref 164, .int 62 0, .int 0 0, .ref 171, .int 114 0, .int 0 0, .ref 276, .int 130 0, .int 0 0, .ref 283, .int 144 0, .int 0 0, .ref 290, .int 155 0, .int 0 0, .ref 295, .int 165 0, .int 0 0, .ref 302, .int 180 0, .int 0 0, .ref 309, .int 187 0, .int 0 0, .ref 316, .int 189 0, .int 0 0, .ref 321, .int 198 0, .int 0 0, .ref 328, .int 204 0, .int 0 0, .ref 333, .int 206 0, .int 0 0, .ref 340, .int 213 0, .int 0 0, .ref 347, .int 220 0, .int 0 0, .ref 354, .int 225 0, .int 0 0, .ref 359, .int 233 0, .int 0 0, .ref 364, .int 240 0, .int 0 0, .ref 371, .int 252 0, .int 0 0, .ref 376, .int 262 0, .int 0 0, .ref 383, .int 264 0, .int 0 0, .ref 390, .int 270 0, .int 0 0, .ref 395]
noncomputable def o12 (n : Nat) : Obj := { cls := .none, data := .fields (m12.take n).toArray }
noncomputable def obs (P : Params) (o3 o12 : Obj) : List Obj := [
  boot_o_0 P,
  boot_o_1 P,
  { cls := .none, data := .dict (en P [e3 "type.__subclasses__.Exception.0" 223 (.int 38 0), e3 "type.__subclasses__.Exception.n" 224 (.int 2 0), e3 "type.__subclasses__.Exception.1" 277 (.int 77 0)]) 3 },
  o3,
  boot_o_4 P,
  boot_o_5 P,
  boot_o_6 P,
  boot_o_7 P,
  boot_o_8 P,
  boot_o_9 P,
  boot_o_10 P,
  tu [],
  o12,
  fs (.type "code") [.str "<module>" 182, .str "<module>" 183, .str "/claim/cut.py" 184, .int 1 0, .int 0 0, .int 0 0, .int 0 0, .int 0 0, .ref 11, .bool false, .int 181 0, .ref 12, .none, .none, .none, .none, .int 185 0, .int 1 0, .str "/claim/cut.py" 186],
  { cls := .type "frame", data := .plain, slots := #[some (.ref 13), some (.ref 3), some (.ref 3), none, some (.str "__main__" 164), none, some (.ref 0)] },
  tu [],
  fs .none [],
  tu [.str "k" 190],
  tu [],
  fi (top 0) "_wall",
  co "_wall" "_wall" 187 1 1 3 15 [.ref 17, .ref 18, .ref 19] 191,
  fo (top 0) "_wall" (.str "__main__" 164) 20,
  tu [.type "Exception"],
  fs (.type "builtin_function_or_method") [.builtin "type.__prepare__", .type "type"],
  { cls := .type "dict", data := .dict (en P [e3 "__module__" 203 (.str "scheme.errors" 194), e3 "__qualname__" 205 (.str "SchemeError" 204), e3 "__firstlineno__" 207 (.int 5 206), e3 "__init__" 216 (.ref 35), e3 "__static_attributes__" 219 (.ref 36)]) 5 },
  tu [],
  fs .none [.int 7 0, .int 4 0, .ref 34],
  fs (.type "code") [.str "SchemeError" 198, .str "SchemeError" 199, .str "/claim/cut.py" 200, .int 5 0, .int 0 0, .int 0 0, .int 0 0, .int 0 0, .ref 25, .bool false, .int 181 0, .ref 26, .none, .none, .none, .none, .int 201 0, .int 5 0, .str "/claim/cut.py" 202],
  { cls := .type "frame", data := .plain, slots := #[some (.ref 27), some (.ref 3), some (.ref 24), none, some (.str "scheme.errors" 194), none, some (.ref 0)] },
  tu [],
  fs .none [],
  tu [.str "self" 211, .str "word" 212, .str "irritants" 213],
  tu [],
  fi (meth 2 0) "SchemeError.__init__",
  co "__init__" "SchemeError.__init__" 208 7 3 3 29 [.ref 31, .ref 32, .ref 33] 214,
  fo (meth 2 0) "SchemeError.__init__" (.str "scheme.errors" 194) 34,
  tu [.str "irritants" 217, .str "word" 218],
  { cls := .type "dict", data := .dict (en P [e3 "__module__" 203 (.str "scheme.errors" 194), e3 "__firstlineno__" 207 (.int 5 206), e3 "__init__" 216 (.ref 35), e3 "__static_attributes__" 219 (.ref 36), e3 "__weakref__" 221 (.ref 39), e3 "__doc__" 222 .none]) 3 },
  { cls := .type "type", data := .cls { name := "SchemeError", bases := [.type "Exception"], mro := [.ref 38, .type "Exception", .type "BaseException", .type "object"], ns := 37, qualname := "SchemeError", hasDict := true, slotNames := [], subclasses := [.ref 58], abstract := false, collection := none, hasDel := false }, slots := #[some (.ref 22), none, some (.str "SchemeError" 196), some (.str "SchemeError" 204), some (.builtin "Exception.__new__"), some (.bool true)] },
  fs (.type "getset_descriptor") [.str "__weakref__" 220, .ref 38, .builtin "ExceptionGroup.__weakref__", .none],
  fs (.type "super") [.ref 38, .ref 38, .ref 38],
  fs (.type "builtin_function_or_method") [.builtin "object.__init_subclass__", .ref 38],
  tu [.ref 38],
  fs (.type "builtin_function_or_method") [.builtin "type.__prepare__", .type "type"],
  { cls := .type "dict", data := .dict (en P [e3 "__module__" 234 (.str "scheme.errors" 194), e3 "__qualname__" 236 (.str "HeapFull" 235), e3 "__firstlineno__" 238 (.int 10 237), e3 "__init__" 246 (.ref 55), e3 "__static_attributes__" 248 (.ref 56)]) 5 },
  tu [],
  fs .none [.int 12 0, .int 4 0, .ref 54],
  fs (.type "code") [.str "HeapFull" 229, .str "HeapFull" 230, .str "/claim/cut.py" 231, .int 10 0, .int 0 0, .int 0 0, .int 0 0, .int 0 0, .ref 45, .bool false, .int 181 0, .ref 46, .none, .none, .none, .none, .int 232 0, .int 10 0, .str "/claim/cut.py" 233],
  { cls := .type "frame", data := .plain, slots := #[some (.ref 47), some (.ref 3), some (.ref 44), none, some (.str "scheme.errors" 194), none, some (.ref 0)] },
  tu [],
  fs .none [],
  tu [.str "self" 242, .str "size" 243],
  tu [],
  fi (meth 3 0) "HeapFull.__init__",
  co "__init__" "HeapFull.__init__" 239 12 2 3 49 [.ref 51, .ref 52, .ref 53] 244,
  fo (meth 3 0) "HeapFull.__init__" (.str "scheme.errors" 194) 54,
  tu [.str "size" 247],
  { cls := .type "dict", data := .dict (en P [e3 "__module__" 234 (.str "scheme.errors" 194), e3 "__firstlineno__" 238 (.int 10 237), e3 "__init__" 246 (.ref 55), e3 "__static_attributes__" 248 (.ref 56), e3 "__doc__" 249 .none]) 2 },
  { cls := .type "type", data := .cls { name := "HeapFull", bases := [.ref 38], mro := [.ref 58, .ref 38, .type "Exception", .type "BaseException", .type "object"], ns := 57, qualname := "HeapFull", hasDict := true, slotNames := [], subclasses := [], abstract := false, collection := none, hasDel := false }, slots := #[some (.ref 42), none, some (.str "HeapFull" 227), some (.str "HeapFull" 235), some (.builtin "Exception.__new__"), some (.bool true)] },
  fs (.type "super") [.ref 58, .ref 58, .ref 58],
  fs (.type "builtin_function_or_method") [.builtin "object.__init_subclass__", .ref 58],
  tu [.type "Exception"],
  fs (.type "builtin_function_or_method") [.builtin "type.__prepare__", .type "type"],
  { cls := .type "dict", data := .dict (en P [e3 "__module__" 259 (.str "scheme.errors" 194), e3 "__qualname__" 261 (.str "MachineFault" 260), e3 "__firstlineno__" 263 (.int 15 262), e3 "__init__" 271 (.ref 74), e3 "__static_attributes__" 273 (.ref 75)]) 5 },
  tu [],
  fs .none [.int 17 0, .int 4 0, .ref 73],
  fs (.type "code") [.str "MachineFault" 254, .str "MachineFault" 255, .str "/claim/cut.py" 256, .int 15 0, .int 0 0, .int 0 0, .int 0 0, .int 0 0, .ref 64, .bool false, .int 181 0, .ref 65, .none, .none, .none, .none, .int 257 0, .int 15 0, .str "/claim/cut.py" 258],
  { cls := .type "frame", data := .plain, slots := #[some (.ref 66), some (.ref 3), some (.ref 63), none, some (.str "scheme.errors" 194), none, some (.ref 0)] },
  tu [],
  fs .none [],
  tu [.str "self" 267, .str "word" 268],
  tu [],
  fi (meth 4 0) "MachineFault.__init__",
  co "__init__" "MachineFault.__init__" 264 17 2 3 68 [.ref 70, .ref 71, .ref 72] 269,
  fo (meth 4 0) "MachineFault.__init__" (.str "scheme.errors" 194) 73,
  tu [.str "word" 272],
  { cls := .type "dict", data := .dict (en P [e3 "__module__" 259 (.str "scheme.errors" 194), e3 "__firstlineno__" 263 (.int 15 262), e3 "__init__" 271 (.ref 74), e3 "__static_attributes__" 273 (.ref 75), e3 "__weakref__" 275 (.ref 78), e3 "__doc__" 276 .none]) 3 },
  { cls := .type "type", data := .cls { name := "MachineFault", bases := [.type "Exception"], mro := [.ref 77, .type "Exception", .type "BaseException", .type "object"], ns := 76, qualname := "MachineFault", hasDict := true, slotNames := [], subclasses := [], abstract := false, collection := none, hasDel := false }, slots := #[some (.ref 61), none, some (.str "MachineFault" 252), some (.str "MachineFault" 260), some (.builtin "Exception.__new__"), some (.bool true)] },
  fs (.type "getset_descriptor") [.str "__weakref__" 274, .ref 77, .builtin "ExceptionGroup.__weakref__", .none],
  fs (.type "super") [.ref 77, .ref 77, .ref 77],
  fs (.type "builtin_function_or_method") [.builtin "object.__init_subclass__", .ref 77],
  tu [.int 2 315, .int (-1) 317, .int (-1) 319, .int (-1) 321, .int 1 322, .int 2 323, .int 2 324, .int 2 325],
  tu [],
  fs .none [],
  tu [.str "word" 330],
  tu [],
  fi (top 22) "payload_of",
  co "payload_of" "payload_of" 327 36 1 3 82 [.ref 84, .ref 85, .ref 86] 331,
  fo (top 22) "payload_of" (.str "scheme.words" 281) 87,
  tu [],
  fs .none [],
  tu [.str "number" 337],
  tu [],
  fi (top 23) "fix",
  co "fix" "fix" 334 38 1 3 89 [.ref 91, .ref 92, .ref 93] 338,
  fo (top 23) "fix" (.str "scheme.words" 281) 94,
  tu [],
  fs .none [],
  tu [.str "address" 344],
  tu [],
  fi (top 24) "ref",
  co "ref" "ref" 341 40 1 3 96 [.ref 98, .ref 99, .ref 100] 345,
  fo (top 24) "ref" (.str "scheme.words" 281) 101,
  tu [],
  fs .none [],
  tu [.str "code" 351],
  tu [],
  fi (top 25) "char_word",
  co "char_word" "char_word" 348 42 1 3 103 [.ref 105, .ref 106, .ref 107] 352,
  fo (top 25) "char_word" (.str "scheme.words" 281) 108,
  tu [],
  fs .none [],
  tu [.str "kind" 358, .str "length" 359],
  tu [],
  fi (top 26) "header_word",
  co "header_word" "header_word" 355 44 2 3 110 [.ref 112, .ref 113, .ref 114] 360,
  fo (top 26) "header_word" (.str "scheme.words" 281) 115,
  tu [],
  fs .none [],
  tu [.str "address" 366],
  tu [],
  fi (top 27) "forward_word",
  co "forward_word" "forward_word" 363 46 1 3 117 [.ref 119, .ref 120, .ref 121] 367,
  fo (top 27) "forward_word" (.str "scheme.words" 281) 122,
  tu [],
  fs .none [],
  tu [.str "word" 373],
  tu [],
  fi (top 28) "is_ref",
  co "is_ref" "is_ref" 370 48 1 3 124 [.ref 126, .ref 127, .ref 128] 374,
  fo (top 28) "is_ref" (.str "scheme.words" 281) 129,
  tu [],
  fs .none [],
  tu [.str "word" 380],
  tu [],
  fi (top 29) "is_header",
  co "is_header" "is_header" 377 50 1 3 131 [.ref 133, .ref 134, .ref 135] 381,
  fo (top 29) "is_header" (.str "scheme.words" 281) 136,
  tu [],
  fs .none [],
  tu [.str "word" 387],
  tu [],
  fi (top 30) "is_forward",
  co "is_forward" "is_forward" 384 52 1 3 138 [.ref 140, .ref 141, .ref 142] 388,
  fo (top 30) "is_forward" (.str "scheme.words" 281) 143,
  tu [],
  fs .none [],
  tu [.str "header" 394],
  tu [],
  fi (top 31) "header_kind",
  co "header_kind" "header_kind" 391 54 1 3 145 [.ref 147, .ref 148, .ref 149] 395,
  fo (top 31) "header_kind" (.str "scheme.words" 281) 150,
  tu [],
  fs .none [],
  tu [.str "header" 401],
  tu [],
  fi (top 32) "header_length",
  co "header_length" "header_length" 398 56 1 3 152 [.ref 154, .ref 155, .ref 156] 402,
  fo (top 32) "header_length" (.str "scheme.words" 281) 157,
  tu [],
  fs .none [],
  tu [.str "word" 408, .str "tag" 409],
  tu [],
  fi (top 33) "is_value_word",
  co "is_value_word" "is_value_word" 405 58 1 3 159 [.ref 161, .ref 162, .ref 163] 410,
  fo (top 33) "is_value_word" (.str "scheme.words" 281) 164,
  tu [],
  fs (.type "builtin_function_or_method") [.builtin "type.__prepare__", .type "type"],
  { cls := .type "dict", data := .dict (en P [e3 "__module__" 422 (.str "scheme.heap" 413), e3 "__qualname__" 424 (.str "Heap" 423), e3 "__firstlineno__" 426 (.int 62 425), e3 "__init__" 434 (.ref 179), e3 "used" 441 (.ref 186), e3 "is_over" 448 (.ref 193), e3 "allocate" 458 (.ref 200), e3 "header_at" 467 (.ref 207), e3 "kind_of" 475 (.ref 214), e3 "length_of" 483 (.ref 221), e3 "is_kind" 492 (.ref 228), e3 "place_of" 501 (.ref 235), e3 "field" 510 (.ref 242), e3 "set_field" 520 (.ref 249), e3 "fields" 529 (.ref 256), e3 "cons" 538 (.ref 263), e3 "__static_attributes__" 541 (.ref 264)]) 17 },
  tu [],
  fs .none [.int 64 0, .int 4 0, .ref 178, .int 68 0, .int 4 0, .ref 185, .int 71 0, .int 4 0, .ref 192, .int 74 0, .int 4 0, .ref 199, .int 80 0, .int 4 0, .ref 206, .int 88 0, .int 4 0, .ref 213, .int 91 0, .int 4 0, .ref 220, .int 94 0, .int 4 0, .ref 227, .int 97 0, .int 4 0, .ref 234, .int 102 0, .int 4 0, .ref 241, .int 105 0, .int 4 0, .ref 248, .int 108 0, .int 4 0, .ref 255, .int 112 0, .int 4 0, .ref 262],
  fs (.type "code") [.str "Heap" 417, .str "Heap" 418, .str "/claim/cut.py" 419, .int 62 0, .int 0 0, .int 0 0, .int 0 0, .int 0 0, .ref 169, .bool false, .int 181 0, .ref 170, .none, .none, .none, .none, .int 420 0, .int 62 0, .str "/claim/cut.py" 421],
  { cls := .type "frame", data := .plain, slots := #[some (.ref 171), some (.ref 3), some (.ref 168), none, some (.str "scheme.heap" 413), none, some (.ref 0)] },
  tu [],
  fs .none [],
  tu [.str "self" 430, .str "limit" 431],
  tu [],
  fi (meth 35 0) "Heap.__init__",
  co "__init__" "Heap.__init__" 427 64 2 3 173 [.ref 175, .ref 176, .ref 177] 432,
  fo (meth 35 0) "Heap.__init__" (.str "scheme.heap" 413) 178,
  tu [],
  fs .none [],
  tu [.str "self" 438],
  tu [],
  fi (meth 35 1) "Heap.used",
  co "used" "Heap.used" 435 68 1 3 180 [.ref 182, .ref 183, .ref 184] 439,
  fo (meth 35 1) "Heap.used" (.str "scheme.heap" 413) 185,
  tu [],
  fs .none [],
  tu [.str "self" 445],
  tu [],
  fi (meth 35 2) "Heap.is_over",
  co "is_over" "Heap.is_over" 442 71 1 3 187 [.ref 189, .ref 190, .ref 191] 446,
  fo (meth 35 2) "Heap.is_over" (.str "scheme.heap" 413) 192,
  tu [],
  fs .none [],
  tu [.str "self" 452, .str "kind" 453, .str "fields" 454, .str "address" 455],
  tu [],
  fi (meth 35 3) "Heap.allocate",
  co "allocate" "Heap.allocate" 449 74 3 3 194 [.ref 196, .ref 197, .ref 198] 456,
  fo (meth 35 3) "Heap.allocate" (.str "scheme.heap" 413) 199,
  tu [],
  fs .none [],
  tu [.str "self" 462, .str "word" 463, .str "address" 464],
  tu [],
  fi (meth 35 4) "Heap.header_at",
  co "header_at" "Heap.header_at" 459 80 2 3 201 [.ref 203, .ref 204, .ref 205] 465,
  fo (meth 35 4) "Heap.header_at" (.str "scheme.heap" 413) 206,
  tu [],
  fs .none [],
  tu [.str "self" 471, .str "word" 472],
  tu [],
  fi (meth 35 5) "Heap.kind_of",
  co "kind_of" "Heap.kind_of" 468 88 2 3 208 [.ref 210, .ref 211, .ref 212] 473,
  fo (meth 35 5) "Heap.kind_of" (.str "scheme.heap" 413) 213,
  tu [],
  fs .none [],
  tu [.str "self" 479, .str "word" 480],
  tu [],
  fi (meth 35 6) "Heap.length_of",
  co "length_of" "Heap.length_of" 476 91 2 3 215 [.ref 217, .ref 218, .ref 219] 481,
  fo (meth 35 6) "Heap.length_of" (.str "scheme.heap" 413) 220,
  tu [],
  fs .none [],
  tu [.str "self" 487, .str "word" 488, .str "kind" 489],
  tu [],
  fi (meth 35 7) "Heap.is_kind",
  co "is_kind" "Heap.is_kind" 484 94 3 3 222 [.ref 224, .ref 225, .ref 226] 490,
  fo (meth 35 7) "Heap.is_kind" (.str "scheme.heap" 413) 227,
  tu [],
  fs .none [],
  tu [.str "self" 496, .str "word" 497, .str "at" 498],
  tu [],
  fi (meth 35 8) "Heap.place_of",
  co "place_of" "Heap.place_of" 493 97 3 3 229 [.ref 231, .ref 232, .ref 233] 499,
  fo (meth 35 8) "Heap.place_of" (.str "scheme.heap" 413) 234,
  tu [],
  fs .none [],
  tu [.str "self" 505, .str "word" 506, .str "at" 507],
  tu [],
  fi (meth 35 9) "Heap.field",
  co "field" "Heap.field" 502 102 3 3 236 [.ref 238, .ref 239, .ref 240] 508,
  fo (meth 35 9) "Heap.field" (.str "scheme.heap" 413) 241,
  tu [],
  fs .none [],
  tu [.str "self" 514, .str "word" 515, .str "at" 516, .str "new" 517],
  tu [],
  fi (meth 35 10) "Heap.set_field",
  co "set_field" "Heap.set_field" 511 105 4 3 243 [.ref 245, .ref 246, .ref 247] 518,
  fo (meth 35 10) "Heap.set_field" (.str "scheme.heap" 413) 248,
  tu [],
  fs .none [],
  tu [.str "self" 524, .str "word" 525, .str "first" 526],
  tu [],
  fi (meth 35 11) "Heap.fields",
  co "fields" "Heap.fields" 521 108 2 3 250 [.ref 252, .ref 253, .ref 254] 527,
  fo (meth 35 11) "Heap.fields" (.str "scheme.heap" 413) 255,
  tu [],
  fs .none [],
  tu [.str "self" 533, .str "car" 534, .str "cdr" 535],
  tu [],
  fi (meth 35 12) "Heap.cons",
  co "cons" "Heap.cons" 530 112 3 3 257 [.ref 259, .ref 260, .ref 261] 536,
  fo (meth 35 12) "Heap.cons" (.str "scheme.heap" 413) 262,
  tu [.str "cells" 539, .str "limit" 540],
  { cls := .type "dict", data := .dict (en P [e3 "__module__" 422 (.str "scheme.heap" 413), e3 "__firstlineno__" 426 (.int 62 425), e3 "__init__" 434 (.ref 179), e3 "used" 441 (.ref 186), e3 "is_over" 448 (.ref 193), e3 "allocate" 458 (.ref 200), e3 "header_at" 467 (.ref 207), e3 "kind_of" 475 (.ref 214), e3 "length_of" 483 (.ref 221), e3 "is_kind" 492 (.ref 228), e3 "place_of" 501 (.ref 235), e3 "field" 510 (.ref 242), e3 "set_field" 520 (.ref 249), e3 "fields" 529 (.ref 256), e3 "cons" 538 (.ref 263), e3 "__static_attributes__" 541 (.ref 264), e3 "__dict__" 543 (.ref 267), e3 "__weakref__" 545 (.ref 268), e3 "__doc__" 546 .none]) 4 },
  { cls := .type "type", data := .cls { name := "Heap", bases := [.type "object"], mro := [.ref 266, .type "object"], ns := 265, qualname := "Heap", hasDict := true, slotNames := [], subclasses := [], abstract := false, collection := none, hasDel := false }, slots := #[none, none, some (.str "Heap" 415), some (.str "Heap" 423), some (.builtin "object.__new__"), some (.bool true)] },
  fs (.type "getset_descriptor") [.str "__dict__" 542, .ref 266, .builtin "function.__dict__", .builtin "function.__dict__#set"],
  fs (.type "getset_descriptor") [.str "__weakref__" 544, .ref 266, .builtin "ExceptionGroup.__weakref__", .none],
  fs (.type "super") [.ref 266, .ref 266, .ref 266],
  fs (.type "builtin_function_or_method") [.builtin "object.__init_subclass__", .ref 266],
  tu [],
  fs .none [],
  tu [.str "heap" 552, .str "address" 553, .str "starts" 554, .str "header" 555, .str "kind" 556, .str "length" 557, .str "at" 558, .str "word" 559],
  tu [],
  fi (top 36) "wrong_block",
  co "wrong_block" "wrong_block" 549 114 3 3 271 [.ref 273, .ref 274, .ref 275] 560,
  fo (top 36) "wrong_block" (.str "scheme.heap" 413) 276,
  tu [],
  fs .none [],
  tu [.str "heap" 566, .str "at" 567, .str "starts" 568, .str "address" 569, .str "word" 570],
  tu [],
  fi (top 37) "heap_error",
  co "heap_error" "heap_error" 563 130 1 3 278 [.ref 280, .ref 281, .ref 282] 571,
  fo (top 37) "heap_error" (.str "scheme.heap" 413) 283,
  tu [],
  fs .none [],
  tu [.str "old" 579, .str "new" 580, .str "word" 581, .str "address" 582, .str "header" 583, .str "there" 584],
  tu [],
  fi (top 39) "moved_word",
  co "moved_word" "moved_word" 576 144 3 3 285 [.ref 287, .ref 288, .ref 289] 585,
  fo (top 39) "moved_word" (.str "scheme.collect" 574) 290,
  tu [],
  fs .none [],
  fi (top 40) "collect",
  co "collect" "collect" 588 155 2 3 292 [.none, .none, .ref 294] 591,
  fo (top 40) "collect" (.str "scheme.collect" 574) 295,
  tu [],
  fs .none [],
  tu [.str "heap" 597, .str "roots" 598, .str "found" 599, .str "waiting" 600, .str "word" 601, .str "address" 602, .str "at" 603],
  tu [],
  fi (top 41) "marked",
  co "marked" "marked" 594 165 2 3 297 [.ref 299, .ref 300, .ref 301] 604,
  fo (top 41) "marked" (.str "scheme.collect" 574) 302,
  tu [],
  fs .none [],
  tu [.str "heap" 610, .str "found" 611, .str "places" 612, .str "free" 613, .str "address" 614],
  tu [],
  fi (top 42) "new_places",
  co "new_places" "new_places" 607 180 2 3 304 [.ref 306, .ref 307, .ref 308] 615,
  fo (top 42) "new_places" (.str "scheme.collect" 574) 309,
  tu [],
  fs .none [],
  tu [.str "places" 621, .str "word" 622],
  tu [],
  fi (top 43) "slid_word",
  co "slid_word" "slid_word" 618 187 2 3 311 [.ref 313, .ref 314, .ref 315] 623,
  fo (top 43) "slid_word" (.str "scheme.collect" 574) 316,
  tu [],
  fs .none [],
  fi (top 44) "slide",
  co "slide" "slide" 626 189 2 3 318 [.none, .none, .ref 320] 629,
  fo (top 44) "slide" (.str "scheme.collect" 574) 321,
  tu [],
  fs .none [],
  tu [.str "heap" 635, .str "roots" 636, .str "is_sliding" 637, .str "new" 638, .str "found" 639],
  tu [],
  fi (top 45) "collected",
  co "collected" "collected" 632 198 3 3 323 [.ref 325, .ref 326, .ref 327] 640,
  fo (top 45) "collected" (.str "scheme.collect" 574) 328,
  tu [],
  fs .none [],
  fi (top 47) "_law_pot",
  co "_law_pot" "_law_pot" 645 204 1 3 330 [.none, .none, .ref 332] 648,
  fo (top 47) "_law_pot" (.str "law_nt0174_01" 643) 333,
  tu [],
  fs .none [],
  tu [.str "pot" 654, .str "many" 655, .str "at" 656],
  tu [],
  fi (top 48) "_law_dip",
  co "_law_dip" "_law_dip" 651 206 2 3 335 [.ref 337, .ref 338, .ref 339] 657,
  fo (top 48) "_law_dip" (.str "law_nt0174_01" 643) 340,
  tu [],
  fs .none [],
  tu [.str "pot" 663, .str "found" 664, .str "turn" 665, .str "kind" 666, .str "size" 667],
  tu [],
  fi (top 49) "_law_shapes",
  co "_law_shapes" "_law_shapes" 660 213 1 3 342 [.ref 344, .ref 345, .ref 346] 668,
  fo (top 49) "_law_shapes" (.str "law_nt0174_01" 643) 347,
  tu [],
  fs .none [],
  tu [.str "pot" 674, .str "many" 675, .str "sort" 676],
  tu [],
  fi (top 50) "_law_part",
  co "_law_part" "_law_part" 671 220 2 3 349 [.ref 351, .ref 352, .ref 353] 677,
  fo (top 50) "_law_part" (.str "law_nt0174_01" 643) 354,
  tu [],
  fs .none [],
  fi (top 51) "_law_parts",
  co "_law_parts" "_law_parts" 680 225 2 3 356 [.none, .none, .ref 358] 683,
  fo (top 51) "_law_parts" (.str "law_nt0174_01" 643) 359,
  tu [],
  fs .none [],
  fi (top 52) "_law_heap",
  co "_law_heap" "_law_heap" 686 233 3 3 361 [.none, .none, .ref 363] 689,
  fo (top 52) "_law_heap" (.str "law_nt0174_01" 643) 364,
  tu [],
  fs .none [],
  tu [.str "parts" 695, .str "roots" 696, .str "found" 697, .str "place" 698, .str "plain_here" 699, .str "at" 700],
  tu [],
  fi (top 53) "_law_layers",
  co "_law_layers" "_law_layers" 692 240 2 3 366 [.ref 368, .ref 369, .ref 370] 701,
  fo (top 53) "_law_layers" (.str "law_nt0174_01" 643) 371,
  tu [],
  fs .none [],
  fi (top 54) "_law_cells",
  co "_law_cells" "_law_cells" 704 252 4 3 373 [.none, .none, .ref 375] 707,
  fo (top 54) "_law_cells" (.str "law_nt0174_01" 643) 376,
  tu [],
  fs .none [],
  tu [.str "pair" 713, .str "due" 714],
  tu [],
  fi (top 55) "_law_is",
  co "_law_is" "_law_is" 710 262 2 3 378 [.ref 380, .ref 381, .ref 382] 715,
  fo (top 55) "_law_is" (.str "law_nt0174_01" 643) 383,
  tu [],
  fs .none [],
  tu [.str "own" 721, .str "words" 722, .str "is_sliding" 723, .str "new" 724, .str "roots" 725, .str "error" 726],
  tu [],
  fi (top 56) "_law_kept",
  co "_law_kept" "_law_kept" 718 264 3 3 385 [.ref 387, .ref 388, .ref 389] 727,
  fo (top 56) "_law_kept" (.str "law_nt0174_01" 643) 390,
  tu [],
  fs .none [],
  fi (top 57) "law",
  co "law" "law" 730 270 1 3 392 [.none, .none, .ref 394] 733,
  fo (top 57) "law" (.str "law_nt0174_01" 643) 395]
noncomputable def t0 (P : Params) : BT := treeL 0 .nil (((obs P (boot_o_3 P) (o12 0)).take 15).set 2 (boot_o_2 P))
noncomputable def t1 (P : Params) : BT := treeL 0 .nil ((obs P (o3 P 13 (.str "scheme.errors" 194)) (o12 12)).take 81)
noncomputable def t2 (P : Params) : BT := treeL 0 .nil ((obs P (o3 P 41 (.str "scheme.heap" 413)) (o12 48)).take 166)
noncomputable def t3 (P : Params) : BT := treeL 0 .nil ((obs P (o3 P 42 (.str "scheme.heap" 413)) (o12 51)).take 271)
noncomputable def t4 (P : Params) : BT := treeL 0 .nil (obs P (o3 P 62 (.str "law_nt0174_01" 643)) (o12 111))
end
-- part H4
section
set_option maxRecDepth 100000
section
variable {c : Cx}
theorem fn_at {st : Option Stmt} {a cd : Addr} {qual : Str} {pm : Value} (ok : c.Ok) (hk : c.K.lookup a = some (fo st qual pm cd)) (hp : keepIn c.K (.ref a) = true) (hc : codeIn c.K (.ref cd) qual = true) : FnAt c st a := by
  refine ⟨hp, fun name params body decs ret tps scope ts bind pos e => ?_⟩
  subst e
  exact ⟨_, _, _, _, _, _, _, _, ok.kin _ _ hk, rfl, codeRec_of ok.kin hc⟩
theorem all_cons {α : Type} {P : α → Prop} {a : α} {l : List α} (h : P a) (r : ∀ x ∈ l, P x) : ∀ x ∈ a :: l, P x := fun x hx => by
  rcases List.mem_cons.mp hx with e | hx
  · rw [e]; exact h
  · exact r x hx
theorem all_nil {α : Type} {P : α → Prop} : ∀ x ∈ ([] : List α), P x := fun x hx => by cases hx
theorem fn_all (ok : c.Ok) (hk : c.K = K c.w.params) (kp : ∀ a, keepTab.contains a = true → keepIn c.K (.ref a) = true) : ∀ p ∈ fnTab, FnAt c (top p.1) p.2 :=
  all_cons (fn_at (qual := "payload_of") (pm := (.str "scheme.words" 281)) (cd := 87) ok (by rw [hk]; kernel_rfl) (kp _ (by kernel_rfl)) (by rw [hk]; kernel_rfl)) <|
  all_cons (fn_at (qual := "fix") (pm := (.str "scheme.words" 281)) (cd := 94) ok (by rw [hk]; kernel_rfl) (kp _ (by kernel_rfl)) (by rw [hk]; kernel_rfl)) <|
  all_cons (fn_at (qual := "ref") (pm := (.str "scheme.words" 281)) (cd := 101) ok (by rw [hk]; kernel_rfl) (kp _ (by kernel_rfl)) (by rw [hk]; kernel_rfl)) <|
  all_cons (fn_at (qual := "char_word") (pm := (.str "scheme.words" 281)) (cd := 108) ok (by rw [hk]; kernel_rfl) (kp _ (by kernel_rfl)) (by rw [hk]; kernel_rfl)) <|
  all_cons (fn_at (qual := "header_word") (pm := (.str "scheme.words" 281)) (cd := 115) ok (by rw [hk]; kernel_rfl) (kp _ (by kernel_rfl)) (by rw [hk]; kernel_rfl)) <|
  all_cons (fn_at (qual := "forward_word") (pm := (.str "scheme.words" 281)) (cd := 122) ok (by rw [hk]; kernel_rfl) (kp _ (by kernel_rfl)) (by rw [hk]; kernel_rfl)) <|
  all_cons (fn_at (qual := "is_ref") (pm := (.str "scheme.words" 281)) (cd := 129) ok (by rw [hk]; kernel_rfl) (kp _ (by kernel_rfl)) (by rw [hk]; kernel_rfl)) <|
  all_cons (fn_at (qual := "is_header") (pm := (.str "scheme.words" 281)) (cd := 136) ok (by rw [hk]; kernel_rfl) (kp _ (by kernel_rfl)) (by rw [hk]; kernel_rfl)) <|
  all_cons (fn_at (qual := "is_forward") (pm := (.str "scheme.words" 281)) (cd := 143) ok (by rw [hk]; kernel_rfl) (kp _ (by kernel_rfl)) (by rw [hk]; kernel_rfl)) <|
  all_cons (fn_at (qual := "header_kind") (pm := (.str "scheme.words" 281)) (cd := 150) ok (by rw [hk]; kernel_rfl) (kp _ (by kernel_rfl)) (by rw [hk]; kernel_rfl)) <|
  all_cons (fn_at (qual := "header_length") (pm := (.str "scheme.words" 281)) (cd := 157) ok (by rw [hk]; kernel_rfl) (kp _ (by kernel_rfl)) (by rw [hk]; kernel_rfl)) <|
  all_cons (fn_at (qual := "is_value_word") (pm := (.str "scheme.words" 281)) (cd := 164) ok (by rw [hk]; kernel_rfl) (kp _ (by kernel_rfl)) (by rw [hk]; kernel_rfl)) <|
  all_cons (fn_at (qual := "wrong_block") (pm := (.str "scheme.heap" 413)) (cd := 276) ok (by rw [hk]; kernel_rfl) (kp _ (by kernel_rfl)) (by rw [hk]; kernel_rfl)) <|
  all_cons (fn_at (qual := "heap_error") (pm := (.str "scheme.heap" 413)) (cd := 283) ok (by rw [hk]; kernel_rfl) (kp _ (by kernel_rfl)) (by rw [hk]; kernel_rfl)) <|
  all_cons (fn_at (qual := "moved_word") (pm := (.str "scheme.collect" 574)) (cd := 290) ok (by rw [hk]; kernel_rfl) (kp _ (by kernel_rfl)) (by rw [hk]; kernel_rfl)) <|
  all_cons (fn_at (qual := "collect") (pm := (.str "scheme.collect" 574)) (cd := 295) ok (by rw [hk]; kernel_rfl) (kp _ (by kernel_rfl)) (by rw [hk]; kernel_rfl)) <|
  all_cons (fn_at (qual := "marked") (pm := (.str "scheme.collect" 574)) (cd := 302) ok (by rw [hk]; kernel_rfl) (kp _ (by kernel_rfl)) (by rw [hk]; kernel_rfl)) <|
  all_cons (fn_at (qual := "new_places") (pm := (.str "scheme.collect" 574)) (cd := 309) ok (by rw [hk]; kernel_rfl) (kp _ (by kernel_rfl)) (by rw [hk]; kernel_rfl)) <|
  all_cons (fn_at (qual := "slid_word") (pm := (.str "scheme.collect" 574)) (cd := 316) ok (by rw [hk]; kernel_rfl) (kp _ (by kernel_rfl)) (by rw [hk]; kernel_rfl)) <|
  all_cons (fn_at (qual := "slide") (pm := (.str "scheme.collect" 574)) (cd := 321) ok (by rw [hk]; kernel_rfl) (kp _ (by kernel_rfl)) (by rw [hk]; kernel_rfl)) <|
  all_cons (fn_at (qual := "collected") (pm := (.str "scheme.collect" 574)) (cd := 328) ok (by rw [hk]; kernel_rfl) (kp _ (by kernel_rfl)) (by rw [hk]; kernel_rfl)) <|
  all_cons (fn_at (qual := "_law_pot") (pm := (.str "law_nt0174_01" 643)) (cd := 333) ok (by rw [hk]; kernel_rfl) (kp _ (by kernel_rfl)) (by rw [hk]; kernel_rfl)) <|
  all_cons (fn_at (qual := "_law_dip") (pm := (.str "law_nt0174_01" 643)) (cd := 340) ok (by rw [hk]; kernel_rfl) (kp _ (by kernel_rfl)) (by rw [hk]; kernel_rfl)) <|
  all_cons (fn_at (qual := "_law_shapes") (pm := (.str "law_nt0174_01" 643)) (cd := 347) ok (by rw [hk]; kernel_rfl) (kp _ (by kernel_rfl)) (by rw [hk]; kernel_rfl)) <|
  all_cons (fn_at (qual := "_law_part") (pm := (.str "law_nt0174_01" 643)) (cd := 354) ok (by rw [hk]; kernel_rfl) (kp _ (by kernel_rfl)) (by rw [hk]; kernel_rfl)) <|
  all_cons (fn_at (qual := "_law_parts") (pm := (.str "law_nt0174_01" 643)) (cd := 359) ok (by rw [hk]; kernel_rfl) (kp _ (by kernel_rfl)) (by rw [hk]; kernel_rfl)) <|
  all_cons (fn_at (qual := "_law_heap") (pm := (.str "law_nt0174_01" 643)) (cd := 364) ok (by rw [hk]; kernel_rfl) (kp _ (by kernel_rfl)) (by rw [hk]; kernel_rfl)) <|
  all_cons (fn_at (qual := "_law_layers") (pm := (.str "law_nt0174_01" 643)) (cd := 371) ok (by rw [hk]; kernel_rfl) (kp _ (by kernel_rfl)) (by rw [hk]; kernel_rfl)) <|
  all_cons (fn_at (qual := "_law_cells") (pm := (.str "law_nt0174_01" 643)) (cd := 376) ok (by rw [hk]; kernel_rfl) (kp _ (by kernel_rfl)) (by rw [hk]; kernel_rfl)) <|
  all_cons (fn_at (qual := "_law_is") (pm := (.str "law_nt0174_01" 643)) (cd := 383) ok (by rw [hk]; kernel_rfl) (kp _ (by kernel_rfl)) (by rw [hk]; kernel_rfl)) <|
  all_cons (fn_at (qual := "_law_kept") (pm := (.str "law_nt0174_01" 643)) (cd := 390) ok (by rw [hk]; kernel_rfl) (kp _ (by kernel_rfl)) (by rw [hk]; kernel_rfl)) <|
  all_cons (fn_at (qual := "law") (pm := (.str "law_nt0174_01" 643)) (cd := 395) ok (by rw [hk]; kernel_rfl) (kp _ (by kernel_rfl)) (by rw [hk]; kernel_rfl)) <|
  all_nil
theorem mt_all (ok : c.Ok) (hk : c.K = K c.w.params) (kp : ∀ a, keepTab.contains a = true → keepIn c.K (.ref a) = true) : ∀ p ∈ mthTab, FnAt c (meth p.1.1 p.1.2) p.2 :=
  all_cons (fn_at (qual := "Heap.__init__") (pm := (.str "scheme.heap" 413)) (cd := 178) ok (by rw [hk]; kernel_rfl) (kp _ (by kernel_rfl)) (by rw [hk]; kernel_rfl)) <|
  all_cons (fn_at (qual := "Heap.used") (pm := (.str "scheme.heap" 413)) (cd := 185) ok (by rw [hk]; kernel_rfl) (kp _ (by kernel_rfl)) (by rw [hk]; kernel_rfl)) <|
  all_cons (fn_at (qual := "Heap.is_over") (pm := (.str "scheme.heap" 413)) (cd := 192) ok (by rw [hk]; kernel_rfl) (kp _ (by kernel_rfl)) (by rw [hk]; kernel_rfl)) <|
  all_cons (fn_at (qual := "Heap.allocate") (pm := (.str "scheme.heap" 413)) (cd := 199) ok (by rw [hk]; kernel_rfl) (kp _ (by kernel_rfl)) (by rw [hk]; kernel_rfl)) <|
  all_cons (fn_at (qual := "Heap.header_at") (pm := (.str "scheme.heap" 413)) (cd := 206) ok (by rw [hk]; kernel_rfl) (kp _ (by kernel_rfl)) (by rw [hk]; kernel_rfl)) <|
  all_cons (fn_at (qual := "Heap.place_of") (pm := (.str "scheme.heap" 413)) (cd := 234) ok (by rw [hk]; kernel_rfl) (kp _ (by kernel_rfl)) (by rw [hk]; kernel_rfl)) <|
  all_cons (fn_at (qual := "Heap.set_field") (pm := (.str "scheme.heap" 413)) (cd := 248) ok (by rw [hk]; kernel_rfl) (kp _ (by kernel_rfl)) (by rw [hk]; kernel_rfl)) <|
  all_cons (fn_at (qual := "SchemeError.__init__") (pm := (.str "scheme.errors" 194)) (cd := 34) ok (by rw [hk]; kernel_rfl) (kp _ (by kernel_rfl)) (by rw [hk]; kernel_rfl)) <|
  all_cons (fn_at (qual := "HeapFull.__init__") (pm := (.str "scheme.errors" 194)) (cd := 54) ok (by rw [hk]; kernel_rfl) (kp _ (by kernel_rfl)) (by rw [hk]; kernel_rfl)) <|
  all_nil
theorem tab_all {α β : Type} {f : α → β} {l : List α} {g : α → β} (h : l.map f = l.map g) : ∀ x ∈ l, f x = g x := List.map_inj_left.mp h
theorem facts_of (ok : c.Ok) (hk : c.K = K c.w.params) : Facts c := by
  have X := ok.kin
  rw [hk] at X
  have kp : ∀ a, keepTab.contains a = true → keepIn c.K (.ref a) = true := fun a ha => by
    have h : (keepTab.all fun a => keepIn (K c.w.params) (.ref a)) = true := by kernel_rfl
    rw [hk]
    exact List.all_eq_true.mp h a (List.contains_iff_mem.mp ha)
  refine {
    ok := ok
    glob := lookup_all (fun x v => c.mg x = some v) mgTab fun p hp => ?glob
    no := fun x hx => ?no
    fn := lookup_all (fun i a => FnAt c (top i) a) fnTab (fn_all ok hk kp)
    mth := fun i j a => lookup_all (fun (ij : Nat × Nat) a => FnAt c (meth ij.1 ij.2) a) mthTab (mt_all ok hk kp) (i, j) a
    keep := kp
    fty := fun i j a => lookup_all (fun (ij : Nat × Nat) a => typeIn c.K (.ref a) = some (.type "function")) mthTab ?fty (i, j) a
    make := by rw [hk]; kernel_rfl
    get := fun x => by rw [hk]; kernel_rfl
    dct := by rw [hk]; kernel_rfl
    find := lookup_all (fun x v => findIn c.K (.ref 266) x = some v) heapTab ?find
    sattr := by rw [hk]; kernel_rfl
    over := by rw [hk]; kernel_rfl
    tlim := by rw [hk]; kernel_rfl
    tcel := by rw [hk]; kernel_rfl
    sizes := X _ _ (by kernel_rfl) }
  case glob =>
    have h : (mgTab.all fun p => match nsIn (K c.w.params) 3 p.1 with | some (some v) => v == p.2 | _ => false) = true := by kernel_rfl
    have := List.all_eq_true.mp h p hp
    split at this
    · rename_i v hv
      rw [← eq_of_beq this]
      exact mg_some X ok.g hv
    · cases this
  case no =>
    have h : (noTab.all fun x => match nsIn (K c.w.params) 3 x with | some none => true | _ => false) = true := by kernel_rfl
    have := List.all_eq_true.mp h x (List.contains_iff_mem.mp hx)
    split at this
    · rename_i hv; exact mg_none X ok.g hv
    · cases this
  case fty =>
    rw [hk]
    exact tab_all (f := fun (p : (Nat × Nat) × Addr) => typeIn (K c.w.params) (.ref p.2)) (g := fun _ => some (.type "function")) (by kernel_rfl)
  case find =>
    rw [hk]
    exact tab_all (f := fun (p : Str × Option Value) => findIn (K c.w.params) (.ref 266) p.1) (g := fun p => some p.2) (by kernel_rfl)
end
end
-- part H0
section
set_option maxRecDepth 100000
set_option maxHeartbeats 0
/-! ## The head: the text's top, run by the kernel in four parts over trees of objects -/
noncomputable def runS (st : SharedT → Thread → Option (SharedT × Thread)) (ok : Thread → Bool) : Nat → SharedT → Thread → Option SharedT
  | 0, _, _ => none
  | n + 1, s, t => match through t with
    | true => some s
    | false => match ok t with
      | false => none
      | true => match st s t with
        | some (s', t') => runS st ok n s' t'
        | none => none
theorem topRun_of {tb : String → Option Builtin} {p : Program} {w : World} {n₀ : Nat} {ann : Option Value} : ∀ {n : Nat} {s s' : SharedT} {t : Thread}, runS (stepT (denote tb) p w) (stepOk n₀ ann) n s t = some s' → topRun tb p w n₀ ann n s.abs t = some s'.abs
  | 0, _, _, _, h => by cases h
  | n + 1, s, s', t, h => by
    unfold runS at h
    unfold topRun
    cases he : through t with
    | true => rw [he] at h; cases h; rfl
    | false =>
      rw [he] at h
      cases hk : stepOk n₀ ann t with
      | false => rw [hk] at h; cases h
      | true =>
        rw [hk] at h
        cases hs : stepT (denote tb) p w s t with
        | none => rw [hs] at h; cases h
        | some r => obtain ⟨s₂, t₂⟩ := r; rw [hs] at h; rw [stepT_spec hs]; exact topRun_of h
noncomputable def looksAt (p q : Program) (loose : List Str) (Xt : Shared → Bool) {α : Type} (Yf : Shared → α) (g0 : Bool) (H₀ : Heap) (s : Shared) :=
  (staticsOk (importedModules p.main.body) H₀ s.heap && namesBound p s.heap && gensDone s && laidKept H₀ s.heap, openSeen q loose (importedModules p.main.body) Xt g0 s, Yf s)
theorem LeftO.of_run {p q : Program} {loose : List Str} {Xt : Shared → Bool} {α : Type} {Yf : Shared → α} {Ya : World → α} {N M : Nat} {g0 : Bool} {H₀ : Params → Heap} {n₀ : Nat} {gs₀ : Array GenState} {d₀ : Drawn} {k₀ : Nat} {ann : Option Value}
    (open_ : ∀ w : World, (fencedOpening treeTable p w N).map (fun s => (s.heap, s.gens, s.drawn, s.toks)) = some (H₀ w.params, gs₀, d₀, k₀))
    (size : ∀ w : World, ((H₀ w.params).isNs mainGlobals && gs₀.size == 0, (H₀ w.params).objs.size, (H₀ w.params).nsMap mainGlobals "__annotations__") = (true, n₀, ann))
    (run : ∀ (w : World) (os : OsState), ∃ s₁, topRun treeTable p w n₀ ann M ⟨H₀ w.params, gs₀, d₀, k₀, os⟩ (topStub p) = some s₁ ∧ looksAt p q loose Xt Yf g0 (H₀ w.params) s₁ = (true, openGood q loose, Ya w)) (le : Nat.ble M N = true) :
    LeftO p q loose Xt Yf Ya N g0 := fun w => by
  obtain ⟨⟨h, gs, d, k, os⟩, e, e'⟩ := Option.map_eq_some_iff.mp (open_ w)
  obtain ⟨rfl, rfl, rfl, rfl⟩ : h = H₀ w.params ∧ gs = gs₀ ∧ d = d₀ ∧ k = k₀ := by simpa using e'
  obtain ⟨z1, z2, z3⟩ : _ ∧ _ ∧ _ := by simpa only [Prod.mk.injEq] using size w
  obtain ⟨s₁, r, l⟩ := run w os
  obtain ⟨l1, l2, l3⟩ : _ ∧ _ ∧ _ := by simpa only [looksAt, Prod.mk.injEq] using l
  have r' := topRun_mono (N - M) _ _ _ _ r
  rw [show M + (N - M) = N by have := Nat.le_of_ble_eq_true le; lia] at r'
  have t : topFrom treeTable p w N ⟨H₀ w.params, gs, d, k, os⟩ = some s₁ := by
    unfold topFrom
    dsimp only
    rw [z1, z2, z3, r']
    show (match staticsOk (importedModules p.main.body) (H₀ w.params) s₁.heap && namesBound p s₁.heap && gensDone s₁ && laidKept (H₀ w.params) s₁.heap with | true => _ | false => _) = _
    rw [l1]
  unfold openEnds
  rw [e]
  show (topFrom treeTable p w N _).map _ = _
  rw [t]
  exact congrArg some (Prod.ext l2 l3)
abbrev rowE : OpenRow := PySem.Challenge.rw_nt0174_01.row
abbrev pE : Program := rowE.toRowW.prog
theorem h_size : ∀ w : World, ((boot_heap w.params).isNs mainGlobals && (Array.mk [] : Array GenState).size == 0, (boot_heap w.params).objs.size, (boot_heap w.params).nsMap mainGlobals "__annotations__") = (true, 11, some (.ref 6)) := fun w => by kernel_rfl
theorem h_open : ∀ w : World, (fencedOpening treeTable pE w 5192).map (fun s => (s.heap, s.gens, s.drawn, s.toks)) = some (boot_heap w.params, Array.mk [], boot_drawn, boot_toks) := boot_open (by kernel_rfl) (by kernel_rfl) (fun s => by kernel_rfl)
theorem tw_step : @stepT = @PySem.W.Fast.tw10156331382660048174 := PySem.W.Fast.te10156331382660048174
theorem tw_den : @denote = @PySem.W.Fast.tw11892475500146522536 := PySem.W.Fast.te11892475500146522536
theorem tw_tab : @treeTable = @PySem.W.Fast.tw14364793385576792824 := PySem.W.Fast.te14364793385576792824
theorem tw_ok : @stepOk = @PySem.W.Fast.tw6613529449190102663 := PySem.W.Fast.te6613529449190102663
theorem tw_seen : @openSeen = @PySem.W.Fast.tw4187177175401517315 := PySem.W.Fast.te4187177175401517315
theorem tw_seg : @segRunT = @PySem.W.Fast.tw10110043849684766642 := PySem.W.Fast.te10110043849684766642
/-- what is looked at: all statements but the names' own and the classes that are not read -/
noncomputable def vw : Program := view pE [0, 2, 3, 4, 6, 7, 8, 9, 10, 11, 12, 13, 14, 15, 16, 17, 18, 19, 20, 21, 22, 23, 24, 25, 26, 27, 28, 29, 30, 31, 32, 33, 35, 36, 37, 39, 40, 41, 42, 43, 44, 45, 47, 48, 49, 50, 51, 52, 53, 54, 55, 56, 57]
abbrev vl : List (Str × WData) := [("TRUE", .int 12)]
noncomputable abbrev hook : Hook := kHook K kas kas_eq
noncomputable def xt (s : Shared) : Bool := xlAt vw vl s && recOk (RowW.records rowE.toRowW) s

noncomputable def bE : List Stmt := behindTheImports pE
noncomputable def envE : Env := { scope := pE.main.scope, locals := mainNs, globals := mainNs, cells := [], code := .ref 13, frame := some 14 }
noncomputable def cE : Code := .body bE envE
noncomputable abbrev ps (l c m d : Nat) : Pos := ⟨l, c, m, d⟩
noncomputable def sg (i n : Nat) : List Stmt := (bE.drop i).take n
theorem b_parts : bE = sg 0 5 ++ (sg 5 30 ++ (sg 35 1 ++ sg 36 22)) := by kernel_rfl
noncomputable abbrev fr0 : List Frame := [topFrame (ps 0 0 0 0)]
noncomputable abbrev stt (t : Params → BT) (n k : Nat) (w : World) (os : OsState) : SharedT := ⟨t w.params, n, {}, Array.mk [], boot_drawn, k, os⟩
theorem h_pre (w : World) (os : OsState) : topGo treeTable pE w 11 (some (.ref 6)) 12 ⟨boot_heap w.params, Array.mk [], boot_drawn, boot_toks, os⟩ (topStub pE) = some ((stt t0 15 187 w os).abs, ⟨denote treeTable (.body bE envE), cE, ps 0 0 0 0, fr0⟩) := by kernel_rfl
theorem h_block (w : World) (os : OsState) : segRun treeTable pE w 11 (some (.ref 6)) 1 2 (stt t0 15 187 w os).abs (blockOf bE envE cE (ps 0 0 0 0) fr0) = some (.next, (stt t0 15 187 w os).abs, cE, ps 0 0 0 0) := by kernel_rfl
noncomputable abbrev Part (t t' : Params → BT) (n k n' k' i m : Nat) (p p' : Pos) : Prop :=
  ∀ (w : World) (os : OsState), segRunT treeTable pE w 11 (some (.ref 6)) 1 1000 (stt t n k w os) (piecesOf (sg i m) envE cE p fr0) = some (.next, stt t' n' k' w os, cE, p')
theorem h_1 : Part t0 t1 15 187 81 281 0 5 (ps 0 0 0 0) (ps 15 0 18 24) := fun w os => by rw [tw_seg, tw_tab]; kernel_rfl
theorem h_2 : Part t1 t2 81 281 166 415 5 30 (ps 15 0 18 24) (ps 61 0 61 8) := fun w os => by rw [tw_seg, tw_tab]; kernel_rfl
theorem h_3 : Part t2 t3 166 415 271 549 35 1 (ps 61 0 61 8) (ps 62 0 113 16) := fun w os => by rw [tw_seg, tw_tab]; kernel_rfl
theorem h_4 (w : World) (os : OsState) : runS (stepT (denote treeTable) pE w) (stepOk 11 (some (.ref 6))) 1000 (stt t3 271 549 w os) (restOf (sg 36 22) envE cE (ps 62 0 113 16) fr0) = some (stt t4 397 736 w os) := by
  rw [tw_step, tw_den, tw_tab, tw_ok]
  kernel_rfl
/-! what stands at the end, looked at a part at a time -/
noncomputable abbrev fin (w : World) (os : OsState) : Shared := (stt t4 397 736 w os).abs
noncomputable abbrev sees (w : World) (os : OsState) := openSeen vw ["TRUE"] (importedModules pE.main.body) xt true (fin w os)
theorem k_0 (w : World) (os : OsState) : (staticsOk (importedModules pE.main.body) (boot_heap w.params) (fin w os).heap && namesBound pE (fin w os).heap && gensDone (fin w os) && laidKept (boot_heap w.params) (fin w os).heap) = true := by kernel_rfl
theorem k_1 (w : World) (os : OsState) : (sees w os).1 = expectedOf vw := by unfold sees; rw [tw_seen]; kernel_rfl
theorem k_2 (w : World) (os : OsState) : (sees w os).2.1 = bltViewBooted := by unfold sees; rw [tw_seen]; kernel_rfl
theorem k_3 (w : World) (os : OsState) : (sees w os).2.2.1 = true := by unfold sees; rw [tw_seen]; kernel_rfl
theorem k_4 (w : World) (os : OsState) : (sees w os).2.2.2.1 = true := by unfold sees; rw [tw_seen]; kernel_rfl
theorem k_5 (w : World) (os : OsState) : (sees w os).2.2.2.2.1 = pinGoodD (drecsOf vw) := by unfold sees; rw [tw_seen]; kernel_rfl
theorem k_6 (w : World) (os : OsState) : (sees w os).2.2.2.2.2.1 = plainGoodE vw (looseW vw ["TRUE"]) := by unfold sees; rw [tw_seen]; kernel_rfl
theorem k_7 (w : World) (os : OsState) : (sees w os).2.2.2.2.2.2.1 = plainGoodD vw ["TRUE"] := by unfold sees; rw [tw_seen]; kernel_rfl
theorem k_8 (w : World) (os : OsState) : (sees w os).2.2.2.2.2.2.2.1 = wideGood vw := by unfold sees; rw [tw_seen]; kernel_rfl
theorem k_9 (w : World) (os : OsState) : (sees w os).2.2.2.2.2.2.2.2 = clsGoodW vw ["TRUE"] := by unfold sees; rw [tw_seen]; kernel_rfl
theorem k_10 (w : World) (os : OsState) : hook.obs (fin w os) = hook.val w := by kernel_rfl
theorem looks_at (w : World) (os : OsState) : looksAt pE vw ["TRUE"] xt hook.obs true (boot_heap w.params) (fin w os) = (true, openGood vw ["TRUE"], hook.val w) :=
  looks_pair (k_0 w os) (looks_pair (Prod.ext (k_1 w os) (Prod.ext (k_2 w os) (Prod.ext (k_3 w os) (Prod.ext (k_4 w os) (Prod.ext (k_5 w os) (Prod.ext (k_6 w os) (Prod.ext (k_7 w os) (Prod.ext (k_8 w os) (k_9 w os))))))))) (k_10 w os))
theorem h_left : LeftO pE vw ["TRUE"] xt hook.obs hook.val 5192 := by
  refine LeftO.of_run (M := 12 + (2 + (1000 + (1000 + (1000 + 1000))))) h_open h_size (fun w os => ⟨_, ?_, looks_at w os⟩) (by kernel_rfl)
  have r3 := piece_app (segRun_of (h_3 w os)) (topRun_of (h_4 w os))
  have r2 := piece_app (segRun_of (h_2 w os)) r3
  have r1 := piece_app (segRun_of (h_1 w os)) r2
  rw [← b_parts] at r1
  exact go_top (h_pre w os) (piece_block (h_block w os) r1)
end
local macro_rules | `(tactic| walk_at "room") => `(tactic| first | assumption | exact Room.mono (by assumption) (by decide))
local macro_rules | `(tactic| walk_at "rho") => `(tactic| first
  | assumption
  | rfl
  | exact setv_same _ _ _
  | (refine (setv_ne (by decide)).trans ?_; walk_at "rho")
  | (refine (mask_ne (by rfl)).trans ?_; walk_at "rho"))
local macro_rules | `(tactic| walk_at "name") => `(tactic| first
  | refine e_local (by assumption) (by rfl) (by walk_at "rho") ?_
  | refine e_global (Facts.ok (by assumption)) (by assumption) (by rfl) (Facts.glob (by assumption) _ _ (by rfl)) ?_
  | refine e_builtin (Facts.ok (by assumption)) (by assumption) (by rfl) (Facts.no (by assumption) _ (by decide +kernel)) (by rfl) ?_
  | refine e_free (by assumption) (by rfl) (by rfl) (by walk_at "rho") ?_
  | refine e_cell (by assumption) (by rfl) (by rfl) (by walk_at "rho") ?_)
local macro_rules | `(tactic| walk_at "tw") => `(tactic| first
  | ((with_reducible show TW _ _ _ (eval (Expr.Name _ _) _) _ _); walk_at "name")
  | (with_reducible first | (refine e_int ?_; intro _) | (refine e_str ?_; intro _) | refine e_none ?_ | refine e_bool ?_ | refine e_BinOp ?_)
  | ((with_reducible show TW _ _ _ (eval (Expr.Compare _ [_] [_] _) _) _ _); refine e_Compare ?_)
  | (with_reducible first | refine e_UnaryOp ?_ | refine e_IfExp ?_ | refine e_And ?_ | refine e_SliceA ?_ | refine e_Sub ?_ | refine e_List ?_ | refine e_Tuple ?_)
  | ((with_reducible show TW _ _ _ (eval (Expr.Dict [] [] _) _) _ _); refine o_newDict (Facts.ok (by assumption)) _ ?_)
  | ((with_reducible show TW _ _ _ (eval (Expr.Attribute _ _ _) _) _ _); refine e_Attr ?_)
  | ((with_reducible show TW _ _ _ (eval (Expr.Call (Expr.Name _ _) _ _ _) _) _ _); refine e_CallN ?_)
  | ((with_reducible show TW _ _ _ (eval (Expr.Call (Expr.Attribute _ _ _) _ _ _) _) _ _); refine e_CallM ?_)
  | (with_reducible refine x_nil ?_)
  | ((with_reducible show TW _ _ _ (spliced (backTo _ (starEach (_ :: _) _))) _ _); refine x_cons ?_)
  | ((with_reducible show TW _ _ _ (isTrue (Expr.Compare _ [_] [_] _) _ _) _ _); refine t_Compare ?_)
  | ((with_reducible show TW _ _ _ (isTrue (Expr.Compare _ [_, _] [_, _] _) _ _) _ _); refine t_Compare2 ?_)
  | (with_reducible first | refine t_Not ?_ | refine t_BoolOp ?_ | refine t_all_nil ?_ | refine t_any_nil ?_ | refine t_all_cons ?_ | refine t_any_cons ?_)
  | ((with_reducible show TW _ _ _ (isTrue _ _ (eval _ _)) _ _); refine t_value ?_)
  | (with_reducible first | refine t_true ?_ | (refine o_add ?_; intro _) | (refine o_sub ?_; intro _))
  | ((with_reducible show TW _ _ _ (binaryOp Operator.Mult (Value.int _ _) (Value.int (Int.ofNat _) _)) _ _); refine o_mul ?_ (IntMulOk.of_right (intBits_le_64 (by decide) (by decide))); intro _)
  | ((with_reducible show TW _ _ _ (binaryOp Operator.Mult (Value.int _ _) (Value.int (OfNat.ofNat _) _)) _ _); refine o_mul ?_ (IntMulOk.of_right (intBits_le_64 (by decide) (by decide))); intro _)
  | ((with_reducible show TW _ _ _ (binaryOp Operator.Mod (Value.int _ _) (Value.int (OfNat.ofNat _) _)) _ _); refine o_mod8 (by decide) ?_; intro _)
  | ((with_reducible show TW _ _ _ (binaryOp Operator.FloorDiv (Value.int _ _) (Value.int (OfNat.ofNat _) _)) _ _); refine o_div8 (by decide) ?_; intro _)
  | (with_reducible first | (refine o_neg ?_; intro _) | refine o_eq ?_ | refine o_ne ?_ | refine o_lt ?_ | refine o_gt ?_ | refine o_le ?_ | refine o_ge ?_ | refine b_nil ?_)
  | ((with_reducible show BW _ _ _ (execs (Stmt.Return (some _) _ :: _) _) _ _ _); refine s_Return (by assumption) ?_)
  | ((with_reducible show BW _ _ _ (exec (Stmt.If _ _ _ _) _) _ _ _); refine b_If (by assumption) ?_)
  | ((with_reducible show BW _ _ _ (execs (Stmt.Expr _ _ :: _) _) _ _ _); refine s_Expr (by assumption) ?_)
  | ((with_reducible show BW _ _ _ (execs (Stmt.Assign [Expr.Name _ _] _ _ :: _) _) _ _ _); refine s_AssignL (by assumption) (by rfl) ?_)
  | ((with_reducible show BW _ _ _ (execs (Stmt.Assign [Expr.Subscript _ _ _] _ _ :: _) _) _ _ _); refine s_AssignSub (by assumption) ?_)
  | ((with_reducible show BW _ _ _ (execs (Stmt.Assign [Expr.Attribute _ _ _] _ _ :: _) _) _ _ _); refine s_AssignAttr (by assumption) ?_)
  | ((with_reducible show BW _ _ _ (execs [_] _) _ _ _); refine s_one (by assumption) ?_)
  | ((with_reducible show BW _ _ _ (execs (_ :: _) _) _ _ _); refine s_cons (by assumption) ?_; intro _ _ _))
local macro_rules | `(tactic| walk_at "keeps") => `(tactic| first | exact Keeps1.builtin _ | exact Keeps1.type _ | exact Keeps1.of_K (Facts.ok (by assumption)) (Facts.keep (by assumption) _ (by rfl)))
local macro_rules | `(tactic| walk_at "tw") => `(tactic| ((with_reducible show Keeps1 _ _ ∧ _); refine ⟨by walk_at "keeps", ?_⟩))
local macro_rules | `(tactic| walk_at "dec") => `(tactic| first | (simp; done) | (simp; lia) | (simp; assumption) | lia | assumption)
local macro_rules | `(tactic| walk_at "yes") => `(tactic| refine ifT (by walk_at "dec") ?_)
local macro_rules | `(tactic| walk_at "no") => `(tactic| refine ifF (by walk_at "dec") ?_)
local macro_rules | `(tactic| walk_at "tw") => `(tactic| first
  | ((with_reducible show ∀ _ : Sem Bool, _); intro _)
  | (with_reducible refine x_noArgs ?_)
  | ((with_reducible show TW _ _ _ (evalArgs _ true (backTo _ (starEach (_ :: _) _)) []) _ _); refine x_args ?_)
  | ((with_reducible show (∀ _ : Addr, _ ≠ _) ∧ _); refine ⟨(by intro _ q; cases q), ?_⟩))
local macro_rules | `(tactic| walk_at "tws") => `(tactic| repeat (first | walk_at "tw" | (dsimp only [List.cons_append, List.nil_append])))
local macro_rules | `(tactic| walk_at "tw") => `(tactic| first
  | ((with_reducible show BW _ _ _ (exec (Stmt.For _ _ _ _ _) _) _ _ _); refine b_For (by assumption) ?_)
  | ((with_reducible show BW _ _ _ (assign (Expr.Name _ _) _ _) _ _ _); refine a_local (by assumption) (by rfl) ?_)
  | ((with_reducible show BW _ _ _ (execs (Stmt.Assign [Expr.Tuple _ _ _] (Expr.Tuple _ _ _) _ :: _) _) _ _ _); refine s_AssignSw (by assumption) (Room.handled (by assumption)) ?_)
  | (with_reducible refine a_none ?_)
  | ((with_reducible show BW _ _ _ (assignInOrder (_ :: _) (_ :: _)) _ _ _); refine a_more (by assumption) ?_)
  | ((with_reducible show BW _ _ _ (PySem.bindName _ _ _) _ _ _); refine BW.bindName (BW.store_local (by assumption) (by rfl) ?_)))
local macro_rules | `(tactic| walk_at "sz") => `(tactic| first | decide | lia | (simp only [List.length_cons, List.length_nil, List.length_append, sizeLine_eq] at *; lia))
local macro_rules | `(tactic| walk_at "twt") => `(tactic| repeat ((fail_if_success (with_reducible show TW _ _ _ (isTrue _ _ _) _ _)); first | walk_at "tw" | (dsimp only [List.cons_append, List.nil_append])))
local macro_rules | `(tactic| walk_at "tw") => `(tactic| first
  | ((with_reducible show TW _ _ _ (evalPart none _) _ _); refine TW.pure ?_)
  | ((with_reducible show TW _ _ _ (evalPart (some _) _) _ _); refine TW.part ?_)
  | ((with_reducible show BW _ _ _ (execs (Stmt.Assign [Expr.Name _ _] (Expr.ListComp _ _ _ _) _ :: _) _) _ _ _); refine s_AssignComp (by assumption) (by rfl) (by rfl) (by rfl) ?_)
  | ((with_reducible show BW _ _ _ (execs (Stmt.Assign [Expr.Name _ _] _ _ :: _) _) _ _ _); refine s_AssignC (by assumption) (by rfl) (by rfl) (by rfl) ?_))
local macro_rules | `(tactic| walk_at "tw") => `(tactic| ((with_reducible show TW _ _ _ (eval (Expr.ListComp _ _ _ _) _) _ _); refine e_Comp (by assumption) (by rfl) ?_))
local macro_rules | `(tactic| walk_at "tw") => `(tactic| first
  | ((with_reducible show TW _ _ _ (eval (Expr.Dict (_ :: _) _ _) _) _ _); refine e_DictC (Facts.ok (by assumption)) (by rfl) (by rfl) (by simp) (by decide) ?_)
  | (with_reducible first | refine dp_nil ?_ | refine dp_cons ?_))
local macro_rules | `(tactic| walk_at "twi") => `(tactic| repeat ((fail_if_success (with_reducible show TW _ _ _ (eval (Expr.IfExp _ _ _ _) _) _ _)); first | walk_at "tw" | (dsimp only [List.cons_append, List.nil_append])))
local macro_rules | `(tactic| walk_at "tw") => `(tactic| with_reducible first
  | refine (‹∀ (ρ : Rho) (g : GH), BW _ _ _ (execs _ _) ρ g _ → (_ : Flow → Rho → GH → Prop) Flow.next ρ g›) _ _ ?_
  | refine (‹∀ (v : Value) (ρ : Rho) (g : GH), _ → (_ : Flow → Rho → GH → Prop) (Flow.ret v) ρ g›) _ _ _ ?_)
-- part F1
section
set_option maxHeartbeats 1000000
section
variable {c : Cx} {F : Fm} {A : Around} {g : GH} {Q : Value → GH → Prop} {w n k : Int} {t u : Tok}
theorem f_payload (W : Facts c) (hA : Room 1 A) (h : ∀ t, Q (.int (w / 8) t) g) : TW c F A (call (.ref 88) [.int w t]) g Q := by
  refine f_callL [("word", .int w t)] W.ok (W.fn 22 88 (by rfl)) hA (by rfl) (by decide +kernel) (by intros; rfl) (by rfl) ?_
  intro L qual cd A' ev he hA'
  repeat walk_at "tw"
  exact h _
theorem f_fix (W : Facts c) (hA : Room 1 A) (h : ∀ t, Q (.int (n * 8 + 0) t) g) : TW c F A (call (.ref 95) [.int n t]) g Q := by
  refine f_callL [("number", .int n t)] W.ok (W.fn 23 95 (by rfl)) hA (by rfl) (by decide +kernel) (by intros; rfl) (by rfl) ?_
  intro L qual cd A' ev he hA'
  repeat walk_at "tw"
  exact h _
theorem f_ref (W : Facts c) (hA : Room 1 A) (h : ∀ t, Q (.int (n * 8 + 1) t) g) : TW c F A (call (.ref 102) [.int n t]) g Q := by
  refine f_callL [("address", .int n t)] W.ok (W.fn 24 102 (by rfl)) hA (by rfl) (by decide +kernel) (by intros; rfl) (by rfl) ?_
  intro L qual cd A' ev he hA'
  repeat walk_at "tw"
  exact h _
theorem f_char (W : Facts c) (hA : Room 1 A) (h : ∀ t, Q (.int (n * 8 + 2) t) g) : TW c F A (call (.ref 109) [.int n t]) g Q := by
  refine f_callL [("code", .int n t)] W.ok (W.fn 25 109 (by rfl)) hA (by rfl) (by decide +kernel) (by intros; rfl) (by rfl) ?_
  intro L qual cd A' ev he hA'
  repeat walk_at "tw"
  exact h _
theorem f_hdr (W : Facts c) (hA : Room 1 A) (h : ∀ t, Q (.int ((n * 16 + k) * 8 + 5) t) g) : TW c F A (call (.ref 116) [.int k t, .int n u]) g Q := by
  refine f_callL [("kind", .int k t), ("length", .int n u)] W.ok (W.fn 26 116 (by rfl)) hA (by rfl) (by decide +kernel) (by intros; rfl) (by rfl) ?_
  intro L qual cd A' ev he hA'
  repeat walk_at "tw"
  exact h _
theorem f_fwd (W : Facts c) (hA : Room 1 A) (h : ∀ t, Q (.int (n * 8 + 6) t) g) : TW c F A (call (.ref 123) [.int n t]) g Q := by
  refine f_callL [("address", .int n t)] W.ok (W.fn 27 123 (by rfl)) hA (by rfl) (by decide +kernel) (by intros; rfl) (by rfl) ?_
  intro L qual cd A' ev he hA'
  repeat walk_at "tw"
  exact h _
theorem f_isref (W : Facts c) (hA : Room 1 A) (h : Q (.bool (w % 8 == 1)) g) : TW c F A (call (.ref 130) [.int w t]) g Q := by
  refine f_callL [("word", .int w t)] W.ok (W.fn 28 130 (by rfl)) hA (by rfl) (by decide +kernel) (by intros; rfl) (by rfl) ?_
  intro L qual cd A' ev he hA'
  repeat walk_at "tw"
  exact h
theorem f_ishdr (W : Facts c) (hA : Room 1 A) (h : Q (.bool (w % 8 == 5)) g) : TW c F A (call (.ref 137) [.int w t]) g Q := by
  refine f_callL [("word", .int w t)] W.ok (W.fn 29 137 (by rfl)) hA (by rfl) (by decide +kernel) (by intros; rfl) (by rfl) ?_
  intro L qual cd A' ev he hA'
  repeat walk_at "tw"
  exact h
theorem f_isfwd (W : Facts c) (hA : Room 1 A) (h : Q (.bool (w % 8 == 6)) g) : TW c F A (call (.ref 144) [.int w t]) g Q := by
  refine f_callL [("word", .int w t)] W.ok (W.fn 30 144 (by rfl)) hA (by rfl) (by decide +kernel) (by intros; rfl) (by rfl) ?_
  intro L qual cd A' ev he hA'
  repeat walk_at "tw"
  exact h
theorem f_hkind (W : Facts c) (hA : Room 1 A) (h : ∀ t, Q (.int (w / 8 % 16) t) g) : TW c F A (call (.ref 151) [.int w t]) g Q := by
  refine f_callL [("header", .int w t)] W.ok (W.fn 31 151 (by rfl)) hA (by rfl) (by decide +kernel) (by intros; rfl) (by rfl) ?_
  intro L qual cd A' ev he hA'
  repeat walk_at "tw"
  exact h _
theorem f_hlen (W : Facts c) (hA : Room 1 A) (h : ∀ t, Q (.int (w / 8 / 16) t) g) : TW c F A (call (.ref 158) [.int w t]) g Q := by
  refine f_callL [("header", .int w t)] W.ok (W.fn 32 158 (by rfl)) hA (by rfl) (by decide +kernel) (by intros; rfl) (by rfl) ?_
  intro L qual cd A' ev he hA'
  repeat walk_at "tw"
  exact h _
theorem f_isval (W : Facts c) (hA : Room 1 A) (h : Q (.bool (w % 8 != 5 && w % 8 != 6)) g) : TW c F A (call (.ref 165) [.int w t]) g Q := by
  refine f_callL [("word", .int w t)] W.ok (W.fn 33 165 (by rfl)) hA (by rfl) (by decide +kernel) (by intros; rfl) (by rfl) ?_
  intro L qual cd A' ev he hA'
  repeat (first | walk_at "tw" | dsimp only)
  cases q : (w % 8 != 5)
  · rw [q] at h; exact h
  · rw [q] at h
    rw [if_pos rfl]
    repeat walk_at "tw"
    exact h
end
end
local macro_rules | `(tactic| walk_at "tw") => `(tactic| ((with_reducible show TW _ _ _ (call (Value.ref _) _) _ _); first
  | (refine f_payload (by assumption) (by walk_at "room") ?_; intro _)
  | (refine f_fix (by assumption) (by walk_at "room") ?_; intro _)
  | (refine f_ref (by assumption) (by walk_at "room") ?_; intro _)
  | (refine f_char (by assumption) (by walk_at "room") ?_; intro _)
  | (refine f_hdr (by assumption) (by walk_at "room") ?_; intro _)
  | (refine f_fwd (by assumption) (by walk_at "room") ?_; intro _)
  | (refine f_isref (by assumption) (by walk_at "room") ?_)
  | (refine f_ishdr (by assumption) (by walk_at "room") ?_)
  | (refine f_isfwd (by assumption) (by walk_at "room") ?_)
  | (refine f_hkind (by assumption) (by walk_at "room") ?_; intro _)
  | (refine f_hlen (by assumption) (by walk_at "room") ?_; intro _)
  | (refine f_isval (by assumption) (by walk_at "room") ?_)))
-- part F2
section
set_option maxHeartbeats 1000000

theorem BW.ext {α : Type} {c : Cx} {env : Env} {A : Around} {t : Sem α} {ρ : Rho} {g : GH} {T : Addr} {ao : AO} {Q : α → Rho → GH → Prop} (nT : g T = none) (h : ∀ g', Le g g' → BW c env A t ρ g' Q) : BW c env A t ρ (upd g T ao) Q := h _ (Le.upd nT)
theorem TW.ext {α : Type} {c : Cx} {F : Fm} {A : Around} {t : Sem α} {g : GH} {T : Addr} {ao : AO} {Q : α → GH → Prop} (nT : g T = none) (h : ∀ g', Le g g' → TW c F A t g' Q) : TW c F A t (upd g T ao) Q := h _ (Le.upd nT)

/-! ## Lists of ints -/
theorem ia_app : ∀ {vs ws : List Value} {ns ms : List Int}, IntsAre vs ns → IntsAre ws ms → IntsAre (vs ++ ws) (ns ++ ms)
  | _, _, _, _, .nil, h => h
  | _, _, _, _, .cons n t r, h => .cons n t (ia_app r h)
theorem ia_one (n : Int) (t : Tok) : IntsAre [.int n t] [n] := .cons n t .nil
theorem ia_len : ∀ {vs : List Value} {ns : List Int}, IntsAre vs ns → vs.length = ns.length
  | _, _, .nil => rfl
  | _, _, .cons n t r => by simp [ia_len r]
theorem ia_get : ∀ {vs : List Value} {ns : List Int}, IntsAre vs ns → ∀ {i : Nat} {n : Int}, ns[i]? = some n → ∃ t, vs[i]? = some (.int n t)
  | _, _, .nil, i, n, h => by simp at h
  | _, _, .cons m t r, 0, n, h => by simp at h; subst h; exact ⟨t, rfl⟩
  | _, _, .cons m t r, i + 1, n, h => by simpa using ia_get r (by simpa using h)
theorem ia_set : ∀ {vs : List Value} {ns : List Int}, IntsAre vs ns → ∀ (i : Nat) (n : Int) (t : Tok), IntsAre (vs.set i (.int n t)) (ns.set i n)
  | _, _, .nil, i, n, t => by simpa using IntsAre.nil
  | _, _, .cons m u r, 0, n, t => .cons n t r
  | _, _, .cons m u r, i + 1, n, t => .cons m u (ia_set r i n t)
theorem ia_take : ∀ {vs : List Value} {ns : List Int}, IntsAre vs ns → ∀ (k : Nat), IntsAre (vs.take k) (ns.take k)
  | _, _, .nil, k => by simpa using IntsAre.nil
  | _, _, .cons m u r, 0 => .nil
  | _, _, .cons m u r, k + 1 => .cons m u (ia_take r k)
theorem ia_drop : ∀ {vs : List Value} {ns : List Int}, IntsAre vs ns → ∀ (k : Nat), IntsAre (vs.drop k) (ns.drop k)
  | _, _, .nil, k => by simpa using IntsAre.nil
  | _, _, .cons m u r, 0 => .cons m u r
  | _, _, .cons m u r, k + 1 => ia_drop r k
theorem ia_rep (n : Int) (t : Tok) : ∀ k : Nat, IntsAre (List.replicate k [Value.int n t]).flatten (List.replicate k n)
  | 0 => .nil
  | k + 1 => .cons n t (ia_rep n t k)

def IL (g : GH) (l : Addr) (ns : List Int) : Prop := ∃ vs, g l = some (.lst vs) ∧ IntsAre vs ns
theorem IL.le {g g' : GH} {l : Addr} {ns : List Int} (x : IL g l ns) (h : Le g g') : IL g' l ns := let ⟨vs, e, r⟩ := x; ⟨vs, h _ _ e, r⟩
theorem IL.leB {W : Addr → Prop} {g g' : GH} {l : Addr} {ns : List Int} (x : IL g l ns) (h : LeB W g g') (n : ¬ W l) : IL g' l ns := let ⟨vs, e, r⟩ := x; ⟨vs, h _ _ n e, r⟩
theorem IL.upd {g : GH} {l a : Addr} {ns : List Int} {ao : AO} (x : IL g l ns) (h : l ≠ a) : IL (Mine.upd g a ao) l ns := let ⟨vs, e, r⟩ := x; ⟨vs, by rw [upd_ne h]; exact e, r⟩
theorem IL.self {g : GH} {l : Addr} {vs : List Value} {ns : List Int} (h : IntsAre vs ns) : IL (Mine.upd g l (.lst vs)) l ns := ⟨vs, upd_self .., h⟩
theorem IL.ne {g : GH} {l a : Addr} {ns : List Int} (x : IL g l ns) (h : g a = none) : l ≠ a := by
  rintro rfl; obtain ⟨vs, e, _⟩ := x; rw [h] at e; cases e

structure HO (g : GH) (x l : Addr) (lim : Int) : Prop where
  ex : ∃ dx h1 h2 t1 t2 t3 n, InstG g x 266 dx [⟨h1, .str "limit" t1, .int lim t2⟩, ⟨h2, .str "cells" t3, .ref l⟩] n
theorem HO.leB {W : Addr → Prop} {g g' : GH} {x l : Addr} {lim : Int} (H : HO g x l lim) (h : LeB W g g') (hw : ∀ b, W b → ∃ vs, g b = some (.lst vs)) : HO g' x l lim := by
  obtain ⟨dx, h1, h2, t1, t2, t3, n, I⟩ := H.ex
  refine ⟨dx, h1, h2, t1, t2, t3, n, ⟨h _ _ (fun q => ?_) I.ix, h _ _ (fun q => ?_) I.id, I.ne⟩⟩
  · obtain ⟨vs, e⟩ := hw _ q; rw [I.ix] at e; cases e
  · obtain ⟨vs, e⟩ := hw _ q; rw [I.id] at e; cases e
theorem HO.le {g g' : GH} {x l : Addr} {lim : Int} (H : HO g x l lim) (h : Le g g') : HO g' x l lim := H.leB (W := fun _ => False) (fun b ao _ e => h b ao e) (fun _ q => q.elim)
theorem HO.upd {g : GH} {x l a : Addr} {lim : Int} {vs ws : List Value} (H : HO g x l lim) (h : g a = some (.lst vs)) : HO (Mine.upd g a (.lst ws)) x l lim :=
  H.leB (W := fun b => b = a) (LeB.upd (.inl rfl)) (fun b q => by rw [q]; exact ⟨_, h⟩)
theorem HO.updN {g : GH} {x l a : Addr} {lim : Int} {ao : AO} (H : HO g x l lim) (h : g a = none) : HO (Mine.upd g a ao) x l lim := H.le (Le.upd h)

section
variable {c : Cx} {F : Fm} {A : Around} {g : GH} {Q : Value → GH → Prop} {w n k lim : Int} {t u : Tok} {x l : Addr} {ns : List Int} {env : Env}

theorem h_cells {expr : Bool} (W : Facts c) (H : HO g x l lim) (h : Q (.ref l) g) : TW c F A (getAttr (.ref x) "cells" expr) g Q := by
  obtain ⟨dx, h1, h2, t1, t2, t3, n, I⟩ := H.ex
  exact i_get W.ok I (W.get _) W.dct (W.find _ none (by rfl)) (by rfl) (by rfl) (by rfl) h
theorem h_limit {expr : Bool} (W : Facts c) (H : HO g x l lim) (h : ∀ t, Q (.int lim t) g) : TW c F A (getAttr (.ref x) "limit" expr) g Q := by
  obtain ⟨dx, h1, h2, t1, t2, t3, n, I⟩ := H.ex
  exact i_get W.ok I (W.get _) W.dct (W.find _ none (by rfl)) (by rfl) (by rfl) (by rfl) (h _)
theorem h_meth {pl : Sem Bool} {name : Str} {f : Addr} {R : Value × List Value → GH → Prop} {ij : Nat × Nat} (W : Facts c) (H : HO g x l lim) (hf : heapTab.lookup name = some (some (.ref f))) (hm : mthTab.lookup ij = some f) (hne : (name == ("limit" : Str)) = false ∧ (name == ("cells" : Str)) = false) (h : R (.ref f, [.ref x]) g) :
    TW c F A (getMethod (.ref x) name pl) g R := by
  obtain ⟨dx, h1, h2, t1, t2, t3, n, I⟩ := H.ex
  refine i_meth W.ok I (W.get _) (W.find _ _ hf) (W.fty ij.1 ij.2 f hm) ?_ h
  have e1 : (Value.str ("limit" : Str) t1).isStr name = false := by
    show (("limit" : Str) == name) = false
    rw [BEq.comm]; exact hne.1
  have e2 : (Value.str ("cells" : Str) t3).isStr name = false := by
    show (("cells" : Str) == name) = false
    rw [BEq.comm]; exact hne.2
  unfold PySem.W.getL
  rw [List.find?_cons, e1, List.find?_cons, e2]
  rfl
end
end
-- part F3
section
set_option maxHeartbeats 1000000
section
variable {c : Cx} {F : Fm} {A : Around} {g : GH} {Q : Value → GH → Prop} {w n k lim : Int} {t u : Tok} {x l : Addr} {ns : List Int} {env : Env}

theorem f_Heap (W : Facts c) (hA : Room 2 A) (h : ∀ x l g', Le g g' → HO g' x l lim → IL g' l [] → g x = none → g l = none → x ≠ l → Q (.ref x) g') : TW c F A (call (.ref 266) [.int lim t]) g Q := by
  refine i_make W.ok W.make (W.find "__init__" _ (by rfl)) (W.fty 35 0 179 (by rfl)) ?_
  intro x dx nx nd ne s hb hh
  refine f_code (Q := fun v g' => v = .none ∧ Q (.ref x) g') [("self", .ref x), ("limit", .int lim t)] W.ok (W.mth 35 0 179 (by rfl)) (Room.under hA) (by rfl) (by decide +kernel) (by intros; rfl) (by rfl) (fun L qual cd A' he hA' => ?_) s hb hh
  have I : InstG (upd (upd g dx (.raw (PySem.W.dictOf [] 0))) x (.raw (instObj 266 dx))) x 266 dx [] 0 := ⟨upd_self .., by rw [upd_ne ne.symm, upd_self], ne⟩
  have L0 : Le g (upd (upd g dx (.raw (PySem.W.dictOf [] 0))) x (.raw (instObj 266 dx))) := (Le.upd nd).trans (Le.upd (by rw [upd_ne ne]; exact nx))
  clear hb hh
  generalize (upd (upd g dx (.raw (PySem.W.dictOf [] 0))) x (.raw (instObj 266 dx))) = g0 at *
  repeat walk_at "tw"
  refine i_set W.ok I W.sattr W.over W.tlim W.dct (by rfl) (show (1 : Nat) ≤ 1000 by decide) fun tk => ?_
  have I1 : InstG (upd g0 dx (.raw (PySem.W.dictOf (PySem.W.putL "limit" (PyData.keyHash c.w.params "limit") (.str "limit" tk) (.int lim t) []) (PySem.W.putN "limit" [] 0)))) x 266 dx _ _ := ⟨by rw [upd_ne ne]; exact I.ix, upd_self .., ne⟩
  have L1 : Le g (upd g0 dx (.raw (PySem.W.dictOf (PySem.W.putL "limit" (PyData.keyHash c.w.params "limit") (.str "limit" tk) (.int lim t) []) (PySem.W.putN "limit" [] 0)))) := fun b ao e => by
    have : b ≠ dx := by rintro rfl; rw [nd] at e; cases e
    rw [upd_ne this]; exact L0 _ _ e
  try dsimp only
  generalize (upd g0 dx (.raw (PySem.W.dictOf (PySem.W.putL "limit" (PyData.keyHash c.w.params "limit") (.str "limit" tk) (.int lim t) []) (PySem.W.putN "limit" [] 0)))) = g1 at *
  repeat walk_at "tw"
  refine ⟨by decide, fun l nl => ?_⟩
  have hlx : x ≠ l := by rintro rfl; rw [I1.ix] at nl; cases nl
  have hld : dx ≠ l := by rintro rfl; rw [I1.id] at nl; cases nl
  repeat walk_at "tw"
  have I2 : InstG (upd g1 l (.lst [])) x 266 dx _ _ := ⟨by rw [upd_ne hlx]; exact I1.ix, by rw [upd_ne hld]; exact I1.id, ne⟩
  refine i_set W.ok I2 W.sattr W.over W.tcel W.dct (by rfl) (show (2 : Nat) ≤ 1000 by decide) fun tk2 => ?_
  try dsimp only
  refine b_nil ⟨rfl, h x l _ ?_ ⟨dx, _, _, _, _, _, _, ⟨by rw [upd_ne ne]; exact I2.ix, upd_self .., ne⟩⟩ ⟨[], by rw [upd_ne hld.symm, upd_self], .nil⟩ nx (by
    cases e : g l with
    | none => rfl
    | some ao => have := L1 _ _ e; rw [nl] at this; cases this) hlx⟩
  intro b ao e
  have hd : b ≠ dx := by rintro rfl; rw [nd] at e; cases e
  have e1 := L1 _ _ e
  have hl : b ≠ l := by rintro rfl; rw [nl] at e1; cases e1
  rw [upd_ne hd, upd_ne hl]; exact e1
theorem f_used (W : Facts c) (hA : Room 1 A) (H : HO g x l lim) (hl : IL g l ns) (hz : ns.length ≤ 1000) (h : ∀ t, Q (.int ns.length t) g) : TW c F A (call (.ref 186) [.ref x]) g Q := by
  refine f_callL [("self", .ref x)] W.ok (W.mth 35 1 186 (by rfl)) hA (by rfl) (by decide +kernel) (by intros; rfl) (by rfl) ?_
  intro L qual cd A' ev he hA'
  repeat walk_at "tw"
  refine h_cells W H ?_
  repeat walk_at "tw"
  obtain ⟨vs, e, r⟩ := hl
  refine o_len (LIn.of e) (by rw [ia_len r]; lia) fun t => ?_
  rw [ia_len r]; exact h _
theorem f_over (W : Facts c) (hA : Room 1 A) (H : HO g x l lim) (hl : IL g l ns) (hz : ns.length ≤ 1000) (h : Q (.bool (decide (lim < ns.length))) g) : TW c F A (call (.ref 193) [.ref x]) g Q := by
  refine f_callL [("self", .ref x)] W.ok (W.mth 35 2 193 (by rfl)) hA (by rfl) (by decide +kernel) (by intros; rfl) (by rfl) ?_
  intro L qual cd A' ev he hA'
  repeat walk_at "tw"
  refine h_cells W H ?_
  repeat walk_at "tw"
  obtain ⟨vs, e, r⟩ := hl
  refine o_len (LIn.of e) (by rw [ia_len r]; lia) fun t => ?_
  rw [ia_len r]
  repeat walk_at "tw"
  refine h_limit W H fun t => ?_
  repeat walk_at "tw"
  exact h
theorem f_alloc {lf : Addr} {fs : List Int} (W : Facts c) (hA : Room 2 A) (H : HO g x l lim) (hl : IL g l ns) (hf : IL g lf fs) (hne : lf ≠ l) (hz : ns.length ≤ 1000) (hz2 : fs.length ≤ 1000)
    (h : ∀ t g', LeB (· = l) g g' → IL g' l (ns ++ ((fs.length * 16 + k) * 8 + 5) :: fs) → Q (.int (ns.length * 8 + 1) t) g') : TW c F A (call (.ref 200) [.ref x, .int k t, .ref lf]) g Q := by
  refine f_callL [("self", .ref x), ("kind", .int k t), ("fields", .ref lf)] W.ok (W.mth 35 3 200 (by rfl)) hA (by rfl) (by decide +kernel) (by intros; rfl) (by rfl) ?_
  intro L qual cd A' ev he hA'
  obtain ⟨vs, e, r⟩ := hl
  obtain ⟨ws, ef, rf⟩ := hf
  walk_at "tws"
  refine h_cells W H ?_
  walk_at "tws"
  refine o_len (LIn.of e) (by rw [ia_len r]; lia) fun t => ?_
  walk_at "tws"
  refine h_cells W H ?_
  walk_at "tws"
  refine x_methL slot_list_append (by rfl) e ?_
  walk_at "tws"
  refine o_len (LIn.of ef) (by rw [ia_len rf]; lia) fun t2 => ?_
  walk_at "tws"
  have sz := sizeLine_eq
  have l1 := ia_len r
  have l2 := ia_len rf
  refine o_append e (by lia) ?_
  walk_at "tws"
  refine h_cells W (H.upd e) ?_
  walk_at "tws"
  refine x_methL PySem.F.slot_list_extend (by rfl) (upd_self ..) ?_
  walk_at "tws"
  refine o_extend (upd_self ..) (by rw [upd_ne hne]; exact ef) (by simp; lia) ?_
  walk_at "tws"
  rw [l1]
  refine h _ _ (LeB.trans (LeB.upd (.inl rfl)) (LeB.upd (.inl rfl))) ?_
  refine ⟨_, upd_self .., ?_⟩
  rw [l2, List.append_assoc]
  exact ia_app r (ia_app (ia_one _ _) rf)
theorem f_hat {hd : Int} (W : Facts c) (hA : Room 2 A) (H : HO g x l lim) (hl : IL g l ns) (hz : ns.length ≤ 1000) (hw : w % 8 = 1) (h0 : 0 ≤ w / 8) (hd : ns[(w / 8).toNat]? = some n) (hn : n % 8 = 5)
    (h : ∀ t, Q (.int n t) g) : TW c F A (call (.ref 207) [.ref x, .int w t]) g Q := by
  refine f_callL [("self", .ref x), ("word", .int w t)] W.ok (W.mth 35 4 207 (by rfl)) hA (by rfl) (by decide +kernel) (by intros; rfl) (by rfl) ?_
  intro L qual cd A' ev he hA'
  obtain ⟨vs, e, r⟩ := hl
  have sz := sizeLine_eq
  have l1 := ia_len r
  have lt : (w / 8).toNat < ns.length := (List.getElem?_eq_some_iff.mp hd).1
  obtain ⟨t', hv⟩ := ia_get r hd
  walk_at "tws"
  walk_at "no"
  walk_at "tws"
  walk_at "yes"
  walk_at "tws"
  refine h_cells W H ?_
  walk_at "tws"
  refine o_len (LIn.of e) (by lia) fun t => ?_
  walk_at "tws"
  walk_at "no"
  walk_at "tws"
  refine h_cells W H ?_
  walk_at "tws"
  refine s_list (LIn.of e) ?_
  refine o_getL (LIn.of e) h0 (by lia) hv ?_
  walk_at "tws"
  walk_at "no"
  walk_at "tws"
  walk_at "no"
  walk_at "tws"
  refine h_cells W H ?_
  walk_at "tws"
  refine s_list (LIn.of e) ?_
  refine o_getL (LIn.of e) h0 (by lia) hv ?_
  exact h _
theorem f_place (W : Facts c) (hA : Room 3 A) (H : HO g x l lim) (hl : IL g l ns) (hz : ns.length ≤ 1000) (hw : w % 8 = 1) (h0 : 0 ≤ w / 8) (hd : ns[(w / 8).toNat]? = some n) (hn : n % 8 = 5) (hk0 : 0 ≤ k) (hk : k < n / 8 / 16)
    (h : ∀ t, Q (.int (w / 8 + 1 + k) t) g) : TW c F A (call (.ref 235) [.ref x, .int w t, .int k u]) g Q := by
  refine f_callL [("self", .ref x), ("word", .int w t), ("at", .int k u)] W.ok (W.mth 35 8 235 (by rfl)) hA (by rfl) (by decide +kernel) (by intros; rfl) (by rfl) ?_
  intro L qual cd A' ev he hA'
  walk_at "tws"
  walk_at "yes"
  walk_at "tws"
  refine h_meth (ij := (35, 4)) W H (by rfl) (by rfl) (by decide +kernel) ?_
  walk_at "tws"
  refine f_hat (hd := n) W (by walk_at "room") H hl hz hw h0 hd hn fun t => ?_
  walk_at "tws"
  walk_at "no"
  walk_at "tws"
  exact h _
theorem f_setf {m : Int} {v : Tok} (W : Facts c) (hA : Room 4 A) (H : HO g x l lim) (hl : IL g l ns) (hz : ns.length ≤ 1000) (hw : w % 8 = 1) (h0 : 0 ≤ w / 8) (hd : ns[(w / 8).toNat]? = some n) (hn : n % 8 = 5) (hk0 : 0 ≤ k) (hk : k < n / 8 / 16) (hr : w / 8 + 1 + k < ns.length)
    (h : ∀ g', LeB (· = l) g g' → IL g' l (ns.set (w / 8 + 1 + k).toNat m) → Q .none g') : TW c F A (call (.ref 249) [.ref x, .int w t, .int k u, .int m v]) g Q := by
  refine f_callL [("self", .ref x), ("word", .int w t), ("at", .int k u), ("new", .int m v)] W.ok (W.mth 35 10 249 (by rfl)) hA (by rfl) (by decide +kernel) (by intros; rfl) (by rfl) ?_
  intro L qual cd A' ev he hA'
  have hl' := hl
  obtain ⟨vs, e, r⟩ := hl'
  have l1 := ia_len r
  walk_at "tws"
  refine h_cells W H ?_
  walk_at "tws"
  refine h_meth (ij := (35, 8)) W H (by rfl) (by rfl) (by decide +kernel) ?_
  walk_at "tws"
  refine f_place (n := n) W (by walk_at "room") H hl hz hw h0 hd hn hk0 hk fun t => ?_
  refine o_setL e (by lia) (by lia) (by lia) ?_
  walk_at "tws"
  exact h _ (LeB.upd (.inl rfl)) (IL.self (ia_set r _ _ _))
end
end
-- part F4
section
set_option maxHeartbeats 1000000
/-! ## Dicts that are read by their keys -/
noncomputable def KD (g : GH) (d : Addr) (keys : List Int) : Prop := ∃ kvs ep, g d = some (.dic kvs ep) ∧ kvs.map (·.1) = keys
theorem KD.le {g g' : GH} {d : Addr} {ks : List Int} (x : KD g d ks) (h : Le g g') : KD g' d ks := let ⟨kvs, ep, e, r⟩ := x; ⟨kvs, ep, h _ _ e, r⟩
theorem KD.leB {W : Addr → Prop} {g g' : GH} {d : Addr} {ks : List Int} (x : KD g d ks) (h : LeB W g g') (n : ¬ W d) : KD g' d ks := let ⟨kvs, ep, e, r⟩ := x; ⟨kvs, ep, h _ _ n e, r⟩
theorem valueAt_mem (kvs : List (Int × Value)) (a : Int) : (valueAt kvs a).isSome = decide (a ∈ kvs.map (·.1)) := by
  induction kvs with
  | nil => rfl
  | cons p r ih =>
    unfold valueAt at ih ⊢
    rw [List.find?_cons]
    by_cases q : p.1 = a
    · simp [q]
    · have : decide (p.1 = a) = false := by simp [q]
      rw [this]
      have q' : ¬ a = p.1 := fun e => q e.symm
      simp only [List.map_cons, List.mem_cons, q', false_or]
      exact ih
theorem any_mem (kvs : List (Int × Value)) (a : Int) : (kvs.any fun kv => decide (kv.1 = a)) = decide (a ∈ kvs.map (·.1)) := by
  induction kvs with
  | nil => rfl
  | cons p r ih =>
    rw [List.any_cons, ih]
    by_cases q : p.1 = a
    · simp [q]
    · have q' : ¬ a = p.1 := fun e => q e.symm
      simp [q, q']
theorem stored_new {kvs : List (Int × Value)} {a : Int} {v : Value} (h : a ∉ kvs.map (·.1)) : stored kvs a v = kvs ++ [(a, v)] := by
  unfold stored
  rw [if_neg]
  rw [any_mem]
  simpa using h

noncomputable def offs : Int → List (Int × List Int) → List Int
  | _, [] => []
  | a, b :: r => a :: offs (a + 1 + b.2.length) r
noncomputable def flat (bs : List (Int × List Int)) : List Int := bs.flatMap fun b => b.1 :: b.2
noncomputable def kszs (k : Int) : Int := [2, -1, -1, -1, 1, 2, 2, 2].getD k.toNat 0
structure BlkOk (keys : List Int) (b : Int × List Int) : Prop where
  hd : b.1 % 8 = 5
  len : b.1 / 8 / 16 = b.2.length
  kind : b.1 / 8 % 16 < 8
  size : 0 ≤ kszs (b.1 / 8 % 16) → (b.2.length : Int) = kszs (b.1 / 8 % 16)
  words : ∀ w ∈ b.2, w % 8 ≠ 5 ∧ w % 8 ≠ 6 ∧ (w % 8 = 1 → w / 8 ∈ keys)
noncomputable def AtBlk (ns : List Int) (a : Int) (b : Int × List Int) : Prop := ∃ pre suf, ns = pre ++ (b.1 :: b.2) ++ suf ∧ a = pre.length
theorem AtBlk.hd {ns : List Int} {a : Int} {b : Int × List Int} (h : AtBlk ns a b) : 0 ≤ a ∧ ns[a.toNat]? = some b.1 := by
  obtain ⟨pre, suf, rfl, rfl⟩ := h
  refine ⟨by lia, ?_⟩
  simp
theorem AtBlk.word {ns : List Int} {a : Int} {b : Int × List Int} (h : AtBlk ns a b) {i : Nat} {w : Int} (hi : b.2[i]? = some w) : ns[(a + 1 + i).toNat]? = some w := by
  obtain ⟨pre, suf, rfl, rfl⟩ := h
  have : ((pre.length : Int) + 1 + i).toNat = pre.length + (1 + i) := by lia
  have hlt := (List.getElem?_eq_some_iff.mp hi).1
  rw [this, List.append_assoc, List.getElem?_append_right (by lia)]
  have : pre.length + (1 + i) - pre.length = i + 1 := by lia
  rw [this, List.cons_append, List.getElem?_cons_succ, List.getElem?_append_left hlt, hi]
theorem AtBlk.len {ns : List Int} {a : Int} {b : Int × List Int} (h : AtBlk ns a b) : a + 1 + b.2.length ≤ ns.length := by
  obtain ⟨pre, suf, rfl, rfl⟩ := h
  simp; lia

noncomputable def kszV : List Value := [.int 2 315, .int (-1) 317, .int (-1) 319, .int (-1) 321, .int 1 322, .int 2 323, .int 2 324, .int 2 325]
theorem kszV_get {k : Int} (h0 : 0 ≤ k) (h : k < 8) : ∃ t, kszV[k.toNat]? = some (.int (kszs k) t) := by
  have : k = 0 ∨ k = 1 ∨ k = 2 ∨ k = 3 ∨ k = 4 ∨ k = 5 ∨ k = 6 ∨ k = 7 := by lia
  rcases this with rfl | rfl | rfl | rfl | rfl | rfl | rfl | rfl <;> exact ⟨_, rfl⟩

section
variable {c : Cx} {F : Fm} {A : Around} {g : GH} {Q : Value → GH → Prop} {w n k lim a : Int} {t u : Tok} {x l d : Addr} {ns keys : List Int} {env : Env} {b : Int × List Int}
theorem ksz_tup (W : Facts c) {h : Heap} (hb : BaseOk c h g) : IsTup h 81 kszV.toArray := ⟨_, (hb _ _ W.sizes).1, rfl, 0, rfl⟩
theorem ksz_len (W : Facts c) (h : ∀ t, Q (.int 8 t) g) : TW c F A (call (.builtin "len") [.ref 81]) g Q := fun s hb hf hh =>
  PyProof.Rows.len_tuple (ksz_tup W hb) (by decide) ⟨g, Step.toks hh _, h _⟩
theorem ksz_item (W : Facts c) {value slice : Expr} (h0 : 0 ≤ k) (hk : k < 8) (h : ∀ t, Q (.int (kszs k) t) g) (hs : subscripted slice false (.ref 81) (.int k u) = operate [.ref 81, .int k u] (getItem (.ref 81) (.int k u)) := by rfl) :
    TW c F A (subscriptTail value slice (.ref 81) (.int k u)) g Q := by
  obtain ⟨t, e⟩ := kszV_get h0 hk
  refine s_any (T := "tuple") (fun s hb hh => (ksz_tup W hb).typeIs) slot_tuple_getitem.lookup (fun s hb hf hh => ?_) hs
  refine PyProof.Rows.getItem_tuple (ksz_tup W hb) (by lia) (by lia) (j := k.toNat) ?_ (by simpa using e) ⟨g, Step.refl hh, h _⟩
  have : (kszV.toArray.size) = 8 := rfl
  rw [this]
  simp only [seqIndex?]
  simp
  lia
theorem KD.notIn (hd : KD g d keys) (h : Q (.bool (!decide (a ∈ keys))) g) : TW c F A (compareOp .NotIn (.int a t) (.ref d)) g Q := by
  obtain ⟨kvs, ep, e, rfl⟩ := hd
  exact o_notInD e (by rw [valueAt_mem]; exact h)

theorem f_wrong (W : Facts c) (hA : Room 2 A) (H : HO g x l lim) (hl : IL g l ns) (hz : ns.length ≤ 1000) (hd : KD g d keys) (hb : AtBlk ns a b) (ok : BlkOk keys b) (h : ∀ g', Le g g' → Q .none g') :
    TW c F A (call (.ref 277) [.ref x, .int a t, .ref d]) g Q := by
  refine f_callL [("heap", .ref x), ("address", .int a t), ("starts", .ref d)] W.ok (W.fn 36 277 (by rfl)) hA (by rfl) (by decide +kernel) (by intros; rfl) (by rfl) ?_
  intro L qual cd A' ev he hA'
  have k0 : 0 ≤ b.1 / 8 % 16 := by lia
  have k1 := ok.kind
  have hlen := ok.len
  have hble := hb.len
  have hab := hb.hd
  obtain ⟨vs, e, r⟩ := hl
  have lr := ia_len r
  obtain ⟨_, e0⟩ := ia_get r hab.2
  walk_at "tws"
  refine h_cells W H ?_
  walk_at "tws"
  refine s_list (LIn.of e) (o_getL (LIn.of e) hab.1 (by lia) e0 ?_)
  walk_at "tws"
  refine ⟨by walk_at "sz", fun T nT => ⟨T, _, rfl, upd_self .., rfl, ?_⟩⟩
  show BW _ _ _ (assignInOrder [_, _] [_, _]) _ _ _
  refine a_more he (BW.bindName (BW.store_local he (by rfl) ?_))
  refine a_more he (BW.bindName (BW.store_local he (by rfl) ?_))
  refine a_none ?_
  refine BW.ext nT fun g1 L1 => ?_
  have H1 := H.le L1
  have e1 := L1 _ _ e
  have hd1 := hd.le L1
  walk_at "tws"
  refine ksz_len W fun t => ?_
  walk_at "tws"
  walk_at "no"
  walk_at "twt"
  refine TW.mono (Q := fun z g' => z = false ∧ g' = g1) ?_ ?_
  · walk_at "tws"
    refine ksz_item W k0 k1 fun t => ?_
    walk_at "tws"
    refine ifS (fun q => ?_) (fun q => ⟨by simpa using q, rfl⟩)
    walk_at "tws"
    refine ksz_item W k0 k1 fun t => ?_
    walk_at "tws"
    have q' := ok.size (by simpa using q)
    walk_at "no"
    exact ⟨by simp [hlen, q'], rfl⟩
  rintro _ _ ⟨rfl, rfl⟩
  walk_at "no"
  walk_at "tws"
  refine h_cells W H1 ?_
  walk_at "tws"
  refine o_len (LIn.of e1) (by lia) fun t => ?_
  walk_at "tws"
  walk_at "no"
  walk_at "tws"
  refine o_range2 fun rr t1 t2 t3 nr => ?_
  refine forV_q he (iter_range (Room.handled hA') (upd_self ..) (by lia) (by lia) (by lia) (by lia)) (fun _ ρ g' => Le g' g' ∧ Le g g' ∧ ρ "heap" = some (.ref x) ∧ ρ "starts" = some (.ref d)) (fun _ _ _ _ => trivial) ⟨Le.refl _, L1.trans (Le.upd nr), by walk_at "rho", by walk_at "rho"⟩ ?_ ?_
  · rintro i v ρ g' g₂ Qb kn kr hi ⟨_, L2, r1, r2⟩ ⟨⟨t, rfl⟩, rfl⟩
    have hi' : i < b.2.length := by lia
    have wd := hb.word (List.getElem?_eq_getElem hi')
    obtain ⟨w1, w2, w3⟩ := ok.words b.2[i] (List.getElem_mem hi')
    generalize b.2[i] = w at *
    have ea : a + 1 + (i : Int) = a + 1 + i := rfl
    obtain ⟨t', ew⟩ := ia_get r wd
    have H2 := H.le L2
    have e2 := L2 _ _ e
    have hd2 := hd.le L2
    walk_at "tws"
    refine h_cells W H2 ?_
    walk_at "tws"
    refine s_list (LIn.of e2) (o_getL (LIn.of e2) (by lia) (by lia) ew ?_)
    walk_at "tws"
    walk_at "no"
    walk_at "twt"
    refine TW.mono (Q := fun z g' => z = false ∧ g' = g₂) ?_ ?_
    · walk_at "tws"
      refine ifS (fun q => ?_) (fun q => ⟨by simpa using q, rfl⟩)
      walk_at "tws"
      refine hd2.notIn ?_
      have q' := w3 (by simpa using q)
      walk_at "tws"
      walk_at "no"
      exact ⟨by simpa using q', rfl⟩
    rintro _ _ ⟨rfl, rfl⟩
    walk_at "no"
    walk_at "tws"
    exact kn _ _ ⟨Le.refl _, L2, by walk_at "rho", by walk_at "rho"⟩
  · rintro ρ g' ⟨_, L2, r1, r2⟩
    walk_at "tws"
    exact h _ L2
end
end
-- part F5
section
set_option maxHeartbeats 1000000
theorem atT {ρ : Rho} {x : Str} {k k' : Int} {t : Tok} (h : ρ x = some (.int k t)) (e : k = k') : ∃ t, ρ x = some (.int k' t) := ⟨t, e ▸ h⟩
theorem flat_app (a b : List (Int × List Int)) : flat (a ++ b) = flat a ++ flat b := by simp [flat]
theorem flat_one (b : Int × List Int) : (flat [b]).length = 1 + b.2.length := by simp [flat]; lia
theorem flat_cons_len (b : Int × List Int) (r : List (Int × List Int)) : (flat (b :: r)).length = 1 + b.2.length + (flat r).length := by simp [flat]; lia
theorem flat_ge : ∀ p : List (Int × List Int), p.length ≤ (flat p).length
  | [] => Nat.le_refl _
  | b :: r => by have := flat_ge r; rw [flat_cons_len, List.length_cons]; lia
theorem offs_app : ∀ (a : Int) (p q : List (Int × List Int)), offs a (p ++ q) = offs a p ++ offs (a + (flat p).length) q
  | a, [], q => by simp [offs, flat]
  | a, b :: r, q => by
    simp only [List.cons_append, offs, offs_app _ r q, flat_cons_len]
    congr 3
    lia
theorem offs_lt : ∀ (a : Int) (p : List (Int × List Int)), ∀ y ∈ offs a p, a ≤ y ∧ y < a + (flat p).length
  | a, [], y, h => by cases h
  | a, b :: r, y, h => by
    rw [flat_cons_len]
    rcases List.mem_cons.mp h with e | h
    · lia
    · have := offs_lt _ r y h; lia
theorem offs_len : ∀ (a : Int) (p : List (Int × List Int)), (offs a p).length = p.length
  | a, [] => rfl
  | a, b :: r => by simp [offs, offs_len _ r]
theorem offs_at {bs : List (Int × List Int)} {i : Nat} {k : Int} (h : (offs 0 bs)[i]? = some k) : ∃ b ∈ bs, AtBlk (flat bs) k b := by
  have hi : i < bs.length := by have := (List.getElem?_eq_some_iff.mp h).1; rwa [offs_len] at this
  have e : bs = bs.take i ++ bs[i] :: bs.drop (i + 1) := by rw [← List.drop_eq_getElem_cons hi, List.take_append_drop]
  refine ⟨bs[i], List.getElem_mem hi, flat (bs.take i), flat (bs.drop (i + 1)), ?_, ?_⟩
  · have e' := congrArg flat e
    rw [e', flat_app, List.append_assoc]
    rfl
  · rw [e, offs_app, List.getElem?_append_right (by rw [offs_len, List.length_take]; lia)] at h
    rw [offs_len] at h
    have : min i bs.length = i := by lia
    simp [this, offs] at h
    lia
theorem at_split (p : List (Int × List Int)) (b : Int × List Int) (r : List (Int × List Int)) : AtBlk (flat (p ++ b :: r)) (flat p).length b := ⟨flat p, flat r, by simp [flat], rfl⟩

section
variable {c : Cx} {F : Fm} {A : Around} {g : GH} {Q : Value → GH → Prop} {w n k lim a : Int} {t u : Tok} {x l d : Addr} {ns keys : List Int} {env : Env} {b : Int × List Int} {bs : List (Int × List Int)}
theorem f_herr (W : Facts c) (hA : Room 3 A) (H : HO g x l lim) (hl : IL g l (flat bs)) (hz : (flat bs).length ≤ 1000) (ok : ∀ b ∈ bs, BlkOk (offs 0 bs) b) (h : ∀ g', Le g g' → Q .none g') :
    TW c F A (call (.ref 284) [.ref x]) g Q := by
  refine f_callL [("heap", .ref x)] W.ok (W.fn 37 284 (by rfl)) hA (by rfl) (by decide +kernel) (by intros; rfl) (by rfl) ?_
  intro L qual cd A' ev he hA'
  obtain ⟨vs, e, r⟩ := hl
  have lr := ia_len r
  walk_at "tws"
  intro d ep nd
  have L1 : Le g (upd g d (.dic [] ep)) := Le.upd nd
  have K1 : KD (upd g d (.dic [] ep)) d (offs 0 []) := ⟨_, _, upd_self .., rfl⟩
  generalize upd g d (.dic [] ep) = g1 at *
  walk_at "tws"
  refine while_q he (fun n ρ g' => ∃ pre suf, bs = pre ++ suf ∧ n = suf.length ∧ Le g g' ∧ ρ "heap" = some (.ref x) ∧ (∃ t, ρ "at" = some (.int (flat pre).length t)) ∧ ρ "starts" = some (.ref d) ∧ KD g' d (offs 0 pre)) ?_ bs.length
    ⟨[], bs, rfl, rfl, L1, by walk_at "rho", ⟨_, by walk_at "rho"⟩, by walk_at "rho", K1⟩
  · rintro n ρ g' Qb kn kr ⟨pre, suf, hbs, rfl, L2, r1, ⟨t, r2⟩, r3, K2⟩
    have H2 := H.le L2
    have e2 := L2 _ _ e
    walk_at "tws"
    refine h_cells W H2 ?_
    walk_at "tws"
    refine o_len (LIn.of e2) (by lia) fun t => ?_
    walk_at "tws"
    rw [lr]
    cases suf with
    | nil =>
      rw [List.append_nil] at hbs
      subst hbs
      walk_at "no"
      walk_at "tws"
      obtain ⟨kvs, ep2, ek, rk⟩ := K2
      refine forV_q he (iter_dict (Room.handled hA') ek) (fun _ ρ g'' => Le g' g'' ∧ ρ "heap" = some (.ref x) ∧ ρ "starts" = some (.ref d)) (fun _ _ _ q => q.1 _ _ ek) ⟨Le.refl _, r1, r3⟩ ?_ ?_
      · rintro i v ρ₃ g₃ g₄ Qb kn kr hi ⟨L3, q1, q2⟩ ⟨⟨k, y, tt, hk, rfl⟩, rfl⟩
        have hk' : (offs 0 bs)[i]? = some k := by rw [← rk, List.getElem?_map, hk]; rfl
        obtain ⟨b, hb, at_⟩ := offs_at hk'
        walk_at "tws"
        refine f_wrong W (by walk_at "room") (H2.le L3) ⟨vs, L3 _ _ e2, r⟩ hz ⟨kvs, ep2, L3 _ _ ek, rk⟩ at_ (ok b hb) fun g₅ L5 => ?_
        walk_at "tws"
        refine o_isNotNone (by intro _ q; cases q) ?_
        walk_at "tws"
        walk_at "no"
        walk_at "tws"
        exact kn _ _ ⟨L3.trans L5, by walk_at "rho", by walk_at "rho"⟩
      · rintro ρ₃ g₃ ⟨L3, q1, q2⟩
        walk_at "tws"
        exact h _ (L2.trans L3)
    | cons b suf =>
      have hlt : (flat pre).length < (flat bs).length := by rw [hbs, flat_app, List.length_append, flat_cons_len]; lia
      have at_ : AtBlk (flat bs) (flat pre).length b := by rw [hbs]; exact at_split _ _ _
      have bok := ok b (by rw [hbs]; simp)
      have hh := at_.hd
      obtain ⟨t', ev⟩ := ia_get r hh.2
      have hb5 := bok.hd
      have hbl := bok.len
      walk_at "yes"
      walk_at "tws"
      refine h_cells W H2 ?_
      walk_at "tws"
      refine s_list (LIn.of e2) (o_getL (LIn.of e2) hh.1 (by lia) ev ?_)
      walk_at "tws"
      walk_at "no"
      walk_at "tws"
      have nin : ((flat pre).length : Int) ∉ offs 0 pre := fun q => by have := offs_lt 0 pre _ q; lia
      have pl := flat_ge pre
      obtain ⟨kvs, ep2, ek, rk⟩ := K2
      have kl : kvs.length = pre.length := by rw [← offs_len 0 pre, ← rk]; simp
      refine o_setD ek (by rw [sizeLine_eq]; lia) fun ep3 => ?_
      rw [stored_new (by rw [rk]; exact nin)]
      have L3 : Le g (upd g' d (.dic (kvs ++ [(((flat pre).length : Int), Value.bool true)]) ep3)) := fun bb ao ee => by
        have : bb ≠ d := by rintro rfl; rw [nd] at ee; cases ee
        rw [upd_ne this]; exact L2 _ _ ee
      have K3 : KD (upd g' d (.dic (kvs ++ [(((flat pre).length : Int), Value.bool true)]) ep3)) d (offs 0 (pre ++ [b])) := ⟨_, _, upd_self .., by rw [offs_app, ← rk]; simp [offs]⟩
      generalize (upd g' d (.dic (kvs ++ [(((flat pre).length : Int), Value.bool true)]) ep3)) = g3 at *
      have H3 := H.le L3
      have e3 := L3 _ _ e
      walk_at "tws"
      refine h_cells W H3 ?_
      walk_at "tws"
      refine s_list (LIn.of e3) (o_getL (LIn.of e3) hh.1 (by lia) ev ?_)
      walk_at "tws"
      refine kn suf.length _ _ (by simp) ⟨pre ++ [b], suf, by rw [hbs]; simp, rfl, L3, by walk_at "rho", atT (setv_same _ _ _) ?_, by walk_at "rho", K3⟩
      rw [hbl, flat_app, List.length_append, flat_one]
      lia
end
end
-- part M0
section
set_option maxHeartbeats 1000000
/-! ## What the collector reckons, on lists of ints -/
noncomputable def mw (old new : List Int) (w : Int) : Option (List Int × List Int × Int) :=
  if w % 8 = 1 then
    if 0 ≤ w / 8 ∧ w / 8 ≤ 800 then
      match old[(w / 8).toNat]? with
      | none => none
      | some h => if h % 8 = 6 then some (old, new, h / 8 * 8 + 1)
        else if 0 ≤ h / 8 / 16 ∧ new.length ≤ 400 ∧ old.length ≤ 400 then
          some (old.set (w / 8).toNat (new.length * 8 + 6), new ++ (old.drop (w / 8).toNat).take (min (w / 8 + 1 + h / 8 / 16).toNat old.length - (w / 8).toNat), new.length * 8 + 1)
        else none
    else none
  else some (old, new, w)
noncomputable def mwAll : List Int → List Int → List Int → Option (List Int × List Int × List Int)
  | old, new, [] => some (old, new, [])
  | old, new, w :: r => match mw old new w with
    | none => none
    | some (o, n, w') => match mwAll o n r with
      | none => none
      | some (o', n', r') => some (o', n', w' :: r')
noncomputable def scanF : Nat → List Int → List Int → Nat → Option (List Int × List Int)
  | 0, old, new, _ => some (old, new)
  | k + 1, old, new, i => match new[i]? with
    | none => none
    | some w => match mw old new w with
      | none => none
      | some (o, n, w') => if i < n.length ∧ i ≤ 2000 then scanF k o (n.set i w') (i + 1) else none
noncomputable def scanW : Nat → List Int → List Int → Nat → Option (List Int × List Int)
  | 0, _, _, _ => none
  | f + 1, old, new, i => if new.length ≤ 800 then
      (match new[i]? with
      | none => some (old, new)
      | some h => if 0 ≤ h / 8 / 16 ∧ h / 8 / 16 ≤ 800 then
          (match scanF (h / 8 / 16).toNat old new (i + 1) with
          | none => none
          | some (o, n) => scanW f o n (i + 1 + (h / 8 / 16).toNat))
        else none)
    else none
noncomputable def collectM (fuel : Nat) (old roots : List Int) : Option (List Int × List Int × List Int) := match mwAll old [] roots with
  | none => none
  | some (o, n, r) => match scanW fuel o n 0 with
    | none => none
    | some (o', n') => some (o', n', r)
end
-- part M1
section
set_option maxHeartbeats 1000000
noncomputable def mkTest (keys : List Int) (w : Int) : Bool := w % 8 == 1 && !decide (w / 8 ∈ keys)
noncomputable def mk (keys wait : List Int) (w : Int) : Option (List Int × List Int) :=
  if mkTest keys w then (if keys.length ≤ 800 ∧ wait.length ≤ 800 then some (keys ++ [w / 8], wait ++ [w / 8]) else none) else some (keys, wait)
noncomputable def markL : List Int → List Int → List Int → Option (List Int × List Int)
  | [], keys, wait => some (keys, wait)
  | w :: r, keys, wait => match mk keys wait w with
    | none => none
    | some (k, s) => markL r k s
noncomputable def markF (cells : List Int) : Nat → Nat → List Int → List Int → Option (List Int × List Int)
  | 0, _, keys, wait => some (keys, wait)
  | n + 1, i, keys, wait => match cells[i]? with
    | none => none
    | some w => match mk keys wait w with
      | none => none
      | some (k, s) => markF cells n (i + 1) k s
/-- the stack's top is its last -/
noncomputable def markW (cells : List Int) : Nat → List Int → List Int → Option (List Int)
  | 0, _, _ => none
  | f + 1, keys, wait => match wait.getLast? with
    | none => some keys
    | some a => if 0 ≤ a ∧ a ≤ 800 ∧ wait.length ≤ 800 then
        (match cells[a.toNat]? with
        | none => none
        | some h => if 0 ≤ h / 8 / 16 ∧ h / 8 / 16 ≤ 800 then
            (match markF cells (h / 8 / 16).toNat (a.toNat + 1) keys wait.dropLast with
            | none => none
            | some (k, s) => markW cells f k s)
          else none)
      else none
noncomputable def markedM (fuel : Nat) (cells roots : List Int) : Option (List Int) := match markL roots [] [] with
  | none => none
  | some (k, s) => markW cells fuel k s
noncomputable def placesM (cells : List Int) : List Int → Int → List (Int × Int) → Option (List (Int × Int))
  | [], _, ps => some ps
  | a :: r, free, ps => if 0 ≤ a ∧ a ≤ 800 ∧ a ∉ ps.map (·.1) ∧ ps.length ≤ 800 then
      (match cells[a.toNat]? with
      | none => none
      | some h => placesM cells r (free + 1 + h / 8 / 16) (ps ++ [(a, free)]))
    else none
noncomputable def slidM (ps : List (Int × Int)) (w : Int) : Option Int := if w % 8 = 1 then (ps.lookup (w / 8)).map fun p => p * 8 + 1 else some w
noncomputable def slideF (cells : List Int) (ps : List (Int × Int)) : Nat → Nat → List Int → Option (List Int)
  | 0, _, new => some new
  | n + 1, i, new => match cells[i]? with
    | none => none
    | some w => match slidM ps w with
      | none => none
      | some w' => if new.length ≤ 800 ∧ i ≤ 2000 then slideF cells ps n (i + 1) (new ++ [w']) else none
noncomputable def slideW (cells : List Int) (ps : List (Int × Int)) : List (Int × Int) → List Int → Option (List Int)
  | [], new => some new
  | (a, _) :: r, new => if 0 ≤ a ∧ a ≤ 800 ∧ new.length ≤ 800 then
      (match cells[a.toNat]? with
      | none => none
      | some h => if 0 ≤ h / 8 / 16 ∧ h / 8 / 16 ≤ 800 then
          (match slideF cells ps (h / 8 / 16).toNat (a.toNat + 1) (new ++ [h]) with
          | none => none
          | some n => slideW cells ps r n)
        else none)
    else none
noncomputable def slidAll (ps : List (Int × Int)) : List Int → Option (List Int)
  | [] => some []
  | w :: r => match slidM ps w with
    | none => none
    | some w' => match slidAll ps r with
      | none => none
      | some r' => some (w' :: r')
end
-- part F7
section
set_option maxHeartbeats 1000000
theorem ia_snoc {vw : List Value} {ws : List Int} {a : Int} (h : IntsAre vw (ws ++ [a])) : ∃ vs t, vw = vs ++ [.int a t] ∧ IntsAre vs ws := by
  induction ws generalizing vw with
  | nil => cases h with | cons n t r => cases r; exact ⟨[], t, rfl, .nil⟩
  | cons b r ih => cases h with | cons n t r' => obtain ⟨vs, t', rfl, q⟩ := ih r'; exact ⟨.int b t :: vs, t', rfl, .cons b t q⟩
theorem KD.set {g : GH} {d : Addr} {keys : List Int} {a : Int} {c : Cx} {F : Fm} {A : Around} {t : Tok} {v : Value} {U : Unit → GH → Prop} (hd : KD g d keys) (hn : a ∉ keys) (hz : keys.length ≤ 1000)
    (h : ∀ ao, KD (upd g d ao) d (keys ++ [a]) → U () (upd g d ao)) : TW c F A (setItem (.ref d) (.int a t) v) g U := by
  obtain ⟨kvs, ep, e, rfl⟩ := hd
  have kl : kvs.length ≤ 1000 := by simpa using hz
  refine o_setD e (by rw [sizeLine_eq]; lia) fun ep' => ?_
  rw [stored_new hn]
  exact h _ ⟨_, _, upd_self .., by simp⟩
theorem KD.ne {g : GH} {d a : Addr} {keys : List Int} (x : KD g d keys) (h : g a = none) : d ≠ a := by
  rintro rfl; obtain ⟨_, _, e, _⟩ := x; rw [h] at e; cases e
theorem KD.neL {g : GH} {d a : Addr} {keys ns : List Int} (x : KD g d keys) (y : IL g a ns) : d ≠ a := by
  rintro rfl; obtain ⟨_, _, e, _⟩ := x; obtain ⟨_, e', _⟩ := y; rw [e'] at e; cases e
theorem KD.upd {g : GH} {d a : Addr} {keys : List Int} {ao : AO} (x : KD g d keys) (h : d ≠ a) : KD (Mine.upd g a ao) d keys := by
  obtain ⟨kvs, ep, e, r⟩ := x; exact ⟨kvs, ep, by rw [upd_ne h]; exact e, r⟩
theorem Le.updF {g g' : GH} {a : Addr} {ao : AO} (h : Le g g') (n : g a = none) : Le g (Mine.upd g' a ao) := fun b ao e => by
  have : b ≠ a := by rintro rfl; rw [n] at e; cases e
  rw [upd_ne this]; exact h _ _ e
theorem Le.fresh {g g' : GH} {a : Addr} (h : Le g g') (n : g' a = none) : g a = none := by
  cases q : g a with
  | none => rfl
  | some ao => have := h _ _ q; rw [n] at this; cases this

section
variable {c : Cx} {F : Fm} {A : Around} {g : GH} {Q : Value → GH → Prop} {w n k lim limn a : Int} {t u : Tok} {x l d lr : Addr} {cells roots ks : List Int} {env : Env}
theorem f_marked {fuel : Nat} (W : Facts c) (hA : Room 5 A) (H : HO g x l lim) (hl : IL g l cells) (hr : IL g lr roots) (hm : markedM fuel cells roots = some ks) (hz : cells.length ≤ 1000) (hrz : roots.length ≤ 800)
    (h : ∀ g' d, Le g g' → KD g' d ks → Q (.ref d) g') : TW c F A (call (.ref 303) [.ref x, .ref lr]) g Q := by
  refine f_callL [("heap", .ref x), ("roots", .ref lr)] W.ok (W.fn 41 303 (by rfl)) hA (by rfl) (by decide +kernel) (by intros; rfl) (by rfl) ?_
  intro L qual cd A' ev he hA'
  unfold markedM at hm
  split at hm
  · cases hm
  rename_i k1 s1 hL
  walk_at "tws"
  intro d ep nd
  have L1 : Le g (upd g d (.dic [] ep)) := Le.upd nd
  have K1 : KD (upd g d (.dic [] ep)) d [] := ⟨_, _, upd_self .., rfl⟩
  generalize upd g d (.dic [] ep) = g1 at *
  walk_at "tws"
  refine ⟨by walk_at "sz", fun lw nw => ?_⟩
  have L2 : Le g (upd g1 lw (.lst [])) := L1.trans (Le.upd nw)
  have K2 : KD (upd g1 lw (.lst [])) d [] := K1.le (Le.upd nw)
  have I2 : IL (upd g1 lw (.lst [])) lw [] := IL.self .nil
  have nw' := L1.fresh nw
  generalize upd g1 lw (.lst []) = g2 at *
  walk_at "tws"
  obtain ⟨vs, e, r⟩ := hl
  obtain ⟨vr, er, rr⟩ := hr
  have lvr := ia_len rr
  have lr_ := ia_len r
  refine forV_q he (iter_list (Room.handled hA') (L2 _ _ er)) (fun i ρ g' => ρ "heap" = some (.ref x) ∧ ρ "found" = some (.ref d) ∧ ρ "waiting" = some (.ref lw) ∧ Le g g' ∧ ∃ keys wait, KD g' d keys ∧ IL g' lw wait ∧ markL (roots.drop i) keys wait = some (k1, s1)) (fun _ _ _ q => q.2.2.2.1 _ _ er)
    ⟨by walk_at "rho", by walk_at "rho", by walk_at "rho", L2, [], [], K2, I2, hL⟩ ?_ ?_
  · rintro i v ρ g0 g3 Qb kn kr hi ⟨p1, p2, p3, L3, keys, wait, K3, I3, hmL⟩ ⟨hv, rfl⟩
    have hi' : i < roots.length := by lia
    rw [List.drop_eq_getElem_cons hi'] at hmL
    obtain ⟨tv, hv'⟩ := ia_get rr (List.getElem?_eq_getElem hi')
    rw [hv] at hv'
    cases hv'
    generalize roots[i] = w at *
    unfold markL at hmL
    split at hmL
    · cases hmL
    rename_i k4 s4 hone
    unfold mk at hone
    walk_at "tw"
    walk_at "twt"
    refine TW.mono (Q := fun z g' => z = mkTest keys w ∧ g3 = g') ?_ ?_
    · walk_at "tws"
      refine ifS (fun q => ?_) (fun q => ⟨by unfold mkTest; simp at q; simp [q], rfl⟩)
      walk_at "tws"
      refine K3.notIn ?_
      walk_at "tws"
      unfold mkTest
      simp at q
      refine ifS (fun q2 => ?_) (fun q2 => ⟨by simp at q2; simp [q, q2], rfl⟩)
      walk_at "tws"
      exact ⟨by simp at q2; simp [q, q2], rfl⟩
    rintro _ _ ⟨rfl, rfl⟩
    split at hone
    · rename_i htest
      split at hone
      case isFalse => cases hone
      rename_i hsz
      cases hone
      refine ifT htest ?_
      have hnk : w / 8 ∉ keys := by unfold mkTest at htest; simp at htest; exact htest.2
      walk_at "tws"
      refine K3.set hnk (by lia) fun ao K4 => ?_
      have L4 : Le g (upd g3 d ao) := L3.updF nd
      have I4 : IL (upd g3 d ao) lw wait := I3.upd (K3.neL I3).symm
      generalize upd g3 d ao = g4 at *
      obtain ⟨vw, ew, rw_⟩ := I4
      have lvw := ia_len rw_
      walk_at "tws"
      refine x_methL slot_list_append (by rfl) ew ?_
      walk_at "tws"
      refine o_append ew (by rw [sizeLine_eq]; lia) ?_
      walk_at "tws"
      exact kn _ _ ⟨by walk_at "rho", by walk_at "rho", by walk_at "rho", L4.updF nw', _, _, K4.upd (K4.neL ⟨vw, ew, rw_⟩), IL.self (ia_app rw_ (ia_one _ _)), hmL⟩
    · rename_i htest
      cases hone
      refine ifF htest ?_
      walk_at "tws"
      exact kn _ _ ⟨by walk_at "rho", by walk_at "rho", by walk_at "rho", L3, _, _, K3, I3, hmL⟩
  · rintro ρ g3 ⟨p1, p2, p3, L3, keys, wait, K3, I3, hmL⟩
    rw [List.drop_eq_nil_of_le (by lia)] at hmL
    unfold markL at hmL
    cases hmL
    walk_at "tws"
    refine while_q he (fun f ρ g' => ρ "heap" = some (.ref x) ∧ ρ "found" = some (.ref d) ∧ ρ "waiting" = some (.ref lw) ∧ Le g g' ∧ ∃ keys wait, KD g' d keys ∧ IL g' lw wait ∧ markW cells f keys wait = some ks) ?_ fuel ⟨p1, p2, p3, L3, _, _, K3, I3, hm⟩
    clear K3 I3 hm p1 p2 p3 L3 hL
    rintro f ρ g4 Qb kn kr ⟨p1, p2, p3, L4, keys, wait, K4, I4, hm⟩
    cases f with
    | zero => cases hm
    | succ f =>
    walk_at "tws"
    refine ⟨by walk_at "sz", fun dl ndl => ?_⟩
    have L5 : Le g (upd g4 dl (.lst [])) := L4.trans (Le.upd ndl)
    have K5 : KD (upd g4 dl (.lst [])) d keys := K4.le (Le.upd ndl)
    have I5 : IL (upd g4 dl (.lst [])) lw wait := I4.le (Le.upd ndl)
    have I6 : IL (upd g4 dl (.lst [])) dl [] := IL.self .nil
    generalize upd g4 dl (.lst []) = g5 at *
    clear K4 I4 L4
    obtain ⟨vw, ew, rw_⟩ := I5
    obtain ⟨vz, ez, rz⟩ := I6
    have hu := Room.units hA'
    refine o_neD (RD.ints ew rw_) (RD.ints ez rz) (ke_shaped_ints _) (ke_shaped_ints _) (by lia) ?_
    rw [eqv_ints]
    walk_at "tws"
    unfold markW at hm
    split at hm
    · rename_i hlast
      have hw0 : wait = [] := by simpa using hlast
      cases hm
      refine ifF (by simp [hw0]) ?_
      walk_at "tws"
      exact h _ _ L5 K5
    · rename_i a hlast
      have hw1 : wait = wait.dropLast ++ [a] := by
        have := List.getLast?_eq_some_iff.mp hlast
        obtain ⟨ys, rfl⟩ := this
        simp
      split at hm
      case isFalse => cases hm
      rename_i hb
      split at hm
      · cases hm
      rename_i hd hsome
      split at hm
      case isFalse => cases hm
      rename_i hb2
      split at hm
      · cases hm
      rename_i k6 s6 hF
      refine ifT (by rw [hw1]; simp) ?_
      have hwl : wait.dropLast.length ≤ 800 := by rw [List.length_dropLast]; lia
      generalize wait.dropLast = ws at *
      subst hw1
      obtain ⟨vs', tw', rfl, rs'⟩ := ia_snoc rw_
      have lvs' := ia_len rs'
      obtain ⟨tv, ev⟩ := ia_get r hsome
      walk_at "tws"
      refine x_methL PySem.F.slot_list_pop (by rfl) ew ?_
      walk_at "tws"
      refine o_pop ew (by rw [sizeLine_eq]; lia) ?_
      have L6 : Le g (upd g5 lw (.lst vs')) := L5.updF nw'
      have K6 : KD (upd g5 lw (.lst vs')) d keys := K5.upd (K5.neL ⟨_, ew, rw_⟩)
      have I6 : IL (upd g5 lw (.lst vs')) lw ws := IL.self rs'
      clear ew ez L5 K5 rw_
      generalize upd g5 lw (.lst vs') = g6 at *
      walk_at "tws"
      refine h_cells W (H.le L6) ?_
      walk_at "tws"
      refine s_list (LIn.of (L6 _ _ e)) (o_getL (LIn.of (L6 _ _ e)) (by lia) (by lia) ev ?_)
      walk_at "tws"
      refine o_range2 fun rr t1 t2 t3 nr => ?_
      refine forV_q he (iter_range (Room.handled hA') (upd_self ..) (by lia) (by lia) (by lia) (by lia)) (fun i ρ g' => ρ "heap" = some (.ref x) ∧ ρ "found" = some (.ref d) ∧ ρ "waiting" = some (.ref lw) ∧ Le g g' ∧
          ∃ keys wait, KD g' d keys ∧ IL g' lw wait ∧ markF cells ((hd / 8 / 16).toNat - i) (a.toNat + 1 + i) keys wait = some (k6, s6)) (fun _ _ _ _ => trivial)
        ⟨by walk_at "rho", by walk_at "rho", by walk_at "rho", L6.trans (Le.upd nr), keys, ws, K6.le (Le.upd nr), I6.le (Le.upd nr), hF⟩ ?_ ?_
      · clear K6 I6 hF L6 p1 p2 p3
        rintro i v ρ g0 g3 Qb kn kr hi ⟨p1, p2, p3, L3, keys, wait, K3, I3, hmF⟩ ⟨⟨ti, rfl⟩, rfl⟩
        rw [show (hd / 8 / 16).toNat - i = ((hd / 8 / 16).toNat - (i + 1)) + 1 by lia] at hmF
        unfold markF at hmF
        split at hmF
        · cases hmF
        rename_i w hw
        split at hmF
        · cases hmF
        rename_i k4 s4 hone
        have eidx : (a + 1 + (i : Int)).toNat = a.toNat + 1 + i := by lia
        have hltw := (List.getElem?_eq_some_iff.mp hw).1
        obtain ⟨tw6, ew6⟩ := ia_get r hw
        walk_at "tws"
        refine h_cells W (H.le L3) ?_
        walk_at "tws"
        refine s_list (LIn.of (L3 _ _ e)) (o_getL (LIn.of (L3 _ _ e)) (by lia) (by lia) (by rw [eidx]; exact ew6) ?_)
        unfold mk at hone
        walk_at "twt"
        refine TW.mono (Q := fun z g' => z = mkTest keys w ∧ g3 = g') ?_ ?_
        · walk_at "tws"
          refine ifS (fun q => ?_) (fun q => ⟨by unfold mkTest; simp at q; simp [q], rfl⟩)
          walk_at "tws"
          refine K3.notIn ?_
          walk_at "tws"
          unfold mkTest
          simp at q
          refine ifS (fun q2 => ?_) (fun q2 => ⟨by simp at q2; simp [q, q2], rfl⟩)
          walk_at "tws"
          exact ⟨by simp at q2; simp [q, q2], rfl⟩
        rintro _ _ ⟨rfl, rfl⟩
        split at hone
        · rename_i htest
          split at hone
          case isFalse => cases hone
          rename_i hsz
          cases hone
          refine ifT htest ?_
          have hnk : w / 8 ∉ keys := by unfold mkTest at htest; simp at htest; exact htest.2
          walk_at "tws"
          refine K3.set hnk (by lia) fun ao K4 => ?_
          have L4 : Le g (upd g3 d ao) := L3.updF nd
          have I4 : IL (upd g3 d ao) lw wait := I3.upd (K3.neL I3).symm
          generalize upd g3 d ao = g4 at *
          obtain ⟨vw, ew, rw_⟩ := I4
          have lvw := ia_len rw_
          walk_at "tws"
          refine x_methL slot_list_append (by rfl) ew ?_
          walk_at "tws"
          refine o_append ew (by rw [sizeLine_eq]; lia) ?_
          walk_at "tws"
          exact kn _ _ ⟨by walk_at "rho", by walk_at "rho", by walk_at "rho", L4.updF nw', _, _, K4.upd (K4.neL ⟨vw, ew, rw_⟩), IL.self (ia_app rw_ (ia_one _ _)), hmF⟩
        · rename_i htest
          cases hone
          refine ifF htest ?_
          walk_at "tws"
          exact kn _ _ ⟨by walk_at "rho", by walk_at "rho", by walk_at "rho", L3, _, _, K3, I3, hmF⟩
      · rintro ρ g3 ⟨p1, p2, p3, L3, keys, wait, K3, I3, hmF⟩
        rw [show (a + 1 + hd / 8 / 16 - (a + 1)).toNat = (hd / 8 / 16).toNat by lia, Nat.sub_self] at hmF
        unfold markF at hmF
        cases hmF
        walk_at "tws"
        exact kn f _ _ (by lia) ⟨p1, p2, p3, L3, _, _, K3, I3, hm⟩
end
end
-- part F8
section
set_option maxHeartbeats 1000000
inductive KVs : List (Int × Value) → List (Int × Int) → Prop
  | nil : KVs [] []
  | cons (k v : Int) (t : Tok) {kvs ps} : KVs kvs ps → KVs ((k, .int v t) :: kvs) ((k, v) :: ps)
theorem KVs.keys : ∀ {kvs : List (Int × Value)} {ps : List (Int × Int)}, KVs kvs ps → kvs.map (·.1) = ps.map (·.1)
  | _, _, .nil => rfl
  | _, _, .cons k v t r => by simp [KVs.keys r]
theorem KVs.len : ∀ {kvs : List (Int × Value)} {ps : List (Int × Int)}, KVs kvs ps → kvs.length = ps.length
  | _, _, .nil => rfl
  | _, _, .cons k v t r => by simp [KVs.len r]
theorem KVs.snoc : ∀ {kvs : List (Int × Value)} {ps : List (Int × Int)}, KVs kvs ps → ∀ (k v : Int) (t : Tok), KVs (kvs ++ [(k, .int v t)]) (ps ++ [(k, v)])
  | _, _, .nil, k, v, t => .cons k v t .nil
  | _, _, .cons k' v' t' r, k, v, t => .cons k' v' t' (KVs.snoc r k v t)
theorem KVs.at : ∀ {kvs : List (Int × Value)} {ps : List (Int × Int)}, KVs kvs ps → ∀ {a p : Int}, ps.lookup a = some p → ∃ t, valueAt kvs a = some (.int p t)
  | _, _, .nil, a, p, h => by cases h
  | _, _, .cons k v t r, a, p, h => by
    rw [List.lookup_cons] at h
    unfold valueAt
    rw [List.find?_cons]
    by_cases q : a = k
    · subst q
      simp at h
      subst h
      exact ⟨t, by simp⟩
    · have q1 : (a == k) = false := by simp [q]
      have q2 : decide (k = a) = false := by simp; exact fun e => q e.symm
      rw [q1] at h
      simp only [q2]
      exact KVs.at r h
noncomputable def KV (g : GH) (d : Addr) (ps : List (Int × Int)) : Prop := ∃ kvs ep, g d = some (.dic kvs ep) ∧ KVs kvs ps
theorem KV.le {g g' : GH} {d : Addr} {ps : List (Int × Int)} (x : KV g d ps) (h : Le g g') : KV g' d ps := let ⟨kvs, ep, e, r⟩ := x; ⟨kvs, ep, h _ _ e, r⟩
theorem KV.set {g : GH} {d : Addr} {ps : List (Int × Int)} {a p : Int} {c : Cx} {F : Fm} {A : Around} {t u : Tok} {U : Unit → GH → Prop} (hd : KV g d ps) (hn : a ∉ ps.map (·.1)) (hz : ps.length ≤ 1000)
    (h : ∀ ao, KV (upd g d ao) d (ps ++ [(a, p)]) → U () (upd g d ao)) : TW c F A (setItem (.ref d) (.int a t) (.int p u)) g U := by
  obtain ⟨kvs, ep, e, r⟩ := hd
  have kl := r.len
  refine o_setD e (by rw [sizeLine_eq]; lia) fun ep' => ?_
  rw [stored_new (by rw [r.keys]; exact hn)]
  exact h _ ⟨_, _, upd_self .., r.snoc _ _ _⟩
theorem KV.get {g : GH} {d : Addr} {ps : List (Int × Int)} {a p : Int} {c : Cx} {F : Fm} {A : Around} {t : Tok} {Q : Value → GH → Prop} {value slice : Expr} (hd : KV g d ps) (hp : ps.lookup a = some p) (h : ∀ t, Q (.int p t) g)
    (hs : subscripted slice false (.ref d) (.int a t) = operate [.ref d, .int a t] (getItem (.ref d) (.int a t)) := by rfl) : TW c F A (subscriptTail value slice (.ref d) (.int a t)) g Q := by
  obtain ⟨kvs, ep, e, r⟩ := hd
  obtain ⟨t', hv⟩ := r.at hp
  exact s_dict e (o_getD e hv (h _)) hs
theorem sorted_uniq {a b k : List Int} (h1 : a.Perm k) (h2 : b.Perm k) (p1 : a.Pairwise (· ≤ ·)) (p2 : b.Pairwise (· ≤ ·)) : a = b :=
  List.Perm.eq_of_pairwise (le := (· ≤ ·)) (fun _ _ _ _ x y => Int.le_antisymm x y) p1 p2 (h1.trans h2.symm)

section
variable {c : Cx} {F : Fm} {A : Around} {g : GH} {Q : Value → GH → Prop} {w w' n k lim limn a : Int} {t u : Tok} {x l d lr : Addr} {cells roots ks srt new rts : List Int} {ps : List (Int × Int)} {env : Env}
theorem f_places (W : Facts c) (hA : Room 2 A) (H : HO g x l lim) (hl : IL g l cells) (hd : KD g d ks) (hk64 : ks.length < 64) (s1 : srt.Perm ks) (s2 : srt.Pairwise (· ≤ ·)) (hm : placesM cells srt 0 [] = some ps) (hz : cells.length ≤ 1000)
    (h : ∀ g' d, Le g g' → KV g' d ps → Q (.ref d) g') : TW c F A (call (.ref 310) [.ref x, .ref d]) g Q := by
  refine f_callL [("heap", .ref x), ("found", .ref d)] W.ok (W.fn 42 310 (by rfl)) hA (by rfl) (by decide +kernel) (by intros; rfl) (by rfl) ?_
  intro L qual cd A' ev he hA'
  walk_at "tws"
  intro e ep ne
  have L1 : Le g (upd g e (.dic [] ep)) := Le.upd ne
  have K1 : KV (upd g e (.dic [] ep)) e [] := ⟨_, _, upd_self .., .nil⟩
  generalize upd g e (.dic [] ep) = g1 at *
  obtain ⟨kvs, ep', ed, rd⟩ := hd
  walk_at "tws"
  refine o_sortedD (Room.handled hA') (L1 _ _ ed) (by rw [← List.length_map (f := Prod.fst), rd]; exact hk64) fun so vs' ns' nso hv hp hs => ?_
  rw [rd] at hp
  obtain rfl := sorted_uniq hp s1 hs s2
  have Ls : Le g1 (upd g1 so (.lst vs')) := Le.upd nso
  have eso : (upd g1 so (.lst vs')) so = some (.lst vs') := upd_self ..
  have nso' := L1.fresh nso
  have K2 := K1.le Ls
  have L2 := L1.trans Ls
  generalize upd g1 so (.lst vs') = g2 at *
  obtain ⟨vc, ec, rc⟩ := hl
  have lv := ia_len hv
  have neso : so ≠ e := by rintro rfl; obtain ⟨_, _, q, _⟩ := K2; rw [eso] at q; cases q
  refine forV_q he (iter_list (Room.handled hA') eso) (fun i ρ g' => ρ "heap" = some (.ref x) ∧ ρ "places" = some (.ref e) ∧ Le g g' ∧ g' so = some (.lst vs') ∧ ∃ (fr : Int) (pq : List (Int × Int)), (∃ t, ρ "free" = some (.int fr t)) ∧ KV g' e pq ∧ placesM cells (ns'.drop i) fr pq = some ps) (fun _ _ _ q => q.2.2.2.1)
    ⟨by walk_at "rho", by walk_at "rho", L2, eso, 0, [], ⟨_, by walk_at "rho"⟩, K2, hm⟩ ?_ ?_
  · clear K2 hm L2
    rintro i v ρ g0 g3 Qb kn kr hi ⟨p1, p2, L3, eso3, fr, pq, ⟨tf, p3⟩, K3, hm⟩ ⟨hvi, rfl⟩
    have hi' : i < ns'.length := by lia
    rw [List.drop_eq_getElem_cons hi'] at hm
    obtain ⟨tv, hv'⟩ := ia_get hv (List.getElem?_eq_getElem hi')
    rw [hvi] at hv'
    cases hv'
    generalize ns'[i] = w at *
    unfold placesM at hm
    split at hm
    case isFalse => cases hm
    rename_i hb
    split at hm
    · cases hm
    rename_i hd hsome
    obtain ⟨th, eh⟩ := ia_get rc hsome
    walk_at "tws"
    refine K3.set hb.2.2.1 (by lia) fun ao K4 => ?_
    have L4 : Le g (upd g3 e ao) := L3.updF ne
    have eso4 : (upd g3 e ao) so = some (.lst vs') := by rw [upd_ne neso]; exact eso3
    generalize upd g3 e ao = g4 at *
    walk_at "tws"
    refine h_cells W (H.le L4) ?_
    walk_at "tws"
    refine s_list (LIn.of (L4 _ _ ec)) (o_getL (LIn.of (L4 _ _ ec)) (by lia) (by lia) eh ?_)
    walk_at "tws"
    exact kn _ _ ⟨by walk_at "rho", by walk_at "rho", L4, eso4, _, _, ⟨_, by walk_at "rho"⟩, K4, hm⟩
  · rintro ρ g3 ⟨p1, p2, L3, eso3, fr, pq, ⟨tf, p3⟩, K3, hm⟩
    rw [List.drop_eq_nil_of_le (by lia)] at hm
    unfold placesM at hm
    cases hm
    walk_at "tws"
    exact h _ _ L3 K3
theorem f_slid (W : Facts c) (hA : Room 2 A) (hd : KV g d ps) (hm : slidM ps w = some w') (h : ∀ t, Q (.int w' t) g) : TW c F A (call (.ref 317) [.ref d, .int w t]) g Q := by
  refine f_callL [("places", .ref d), ("word", .int w t)] W.ok (W.fn 43 317 (by rfl)) hA (by rfl) (by decide +kernel) (by intros; rfl) (by rfl) ?_
  intro L qual cd A' ev he hA'
  unfold slidM at hm
  walk_at "tws"
  split at hm
  · rename_i hw
    obtain ⟨p, hp, rfl⟩ := Option.map_eq_some_iff.mp hm
    walk_at "yes"
    walk_at "tws"
    refine hd.get hp fun t => ?_
    walk_at "tws"
    exact h _
  · rename_i hw
    cases hm
    walk_at "no"
    walk_at "tws"
    exact h _
end
end
-- part F9
section
set_option maxHeartbeats 1000000
theorem KV.neL {g : GH} {d a : Addr} {ps : List (Int × Int)} {ns : List Int} (x : KV g d ps) (y : IL g a ns) : d ≠ a := by
  rintro rfl; obtain ⟨_, _, e, _⟩ := x; obtain ⟨_, e', _⟩ := y; rw [e'] at e; cases e
theorem KV.upd {g : GH} {d a : Addr} {ps : List (Int × Int)} {ao : AO} (x : KV g d ps) (h : d ≠ a) : KV (Mine.upd g a ao) d ps := by
  obtain ⟨kvs, ep, e, r⟩ := x; exact ⟨kvs, ep, by rw [upd_ne h]; exact e, r⟩
section
variable {c : Cx} {F : Fm} {A : Around} {g : GH} {Q : Value → GH → Prop} {w w' n k lim limn a : Int} {t u : Tok} {x l d lr : Addr} {cells roots ks srt new rts : List Int} {ps : List (Int × Int)} {env : Env}
theorem f_slide {fuel : Nat} (W : Facts c) (hA : Room 6 A) (H : HO g x l lim) (hl : IL g l cells) (hr : IL g lr roots) (hz : cells.length ≤ 1000) (hrz : roots.length ≤ 800)
    (m1 : markedM fuel cells roots = some ks) (hk64 : ks.length < 64) (s1 : srt.Perm ks) (s2 : srt.Pairwise (· ≤ ·)) (m2 : placesM cells srt 0 [] = some ps) (m3 : slideW cells ps ps [] = some new) (m4 : slidAll ps roots = some rts)
    (h : ∀ g' T xn ln D, Le g g' → g' T = some (.tup [.ref xn, .ref D]) → HO g' xn ln lim → IL g' ln new → IL g' D rts → g xn = none → g ln = none → g D = none → ln ≠ D → Q (.ref T) g') :
    TW c F A (call (.ref 322) [.ref x, .ref lr]) g Q := by
  refine f_callL [("heap", .ref x), ("roots", .ref lr)] W.ok (W.fn 44 322 (by rfl)) hA (by rfl) (by decide +kernel) (by intros; rfl) (by rfl) ?_
  intro L qual cd A' ev he hA'
  walk_at "tws"
  refine f_marked W (by walk_at "room") H hl hr m1 hz hrz fun g1 d L1 K1 => ?_
  walk_at "tws"
  refine f_places W (by walk_at "room") (H.le L1) (hl.le L1) K1 hk64 s1 s2 m2 hz fun g2 dp L2 K2 => ?_
  have L12 := L1.trans L2
  walk_at "tws"
  refine h_limit W (H.le L12) fun t => ?_
  walk_at "tws"
  refine f_Heap W (by walk_at "room") fun xn ln g3 L3 Hn In nx nl nxl => ?_
  have L13 := L12.trans L3
  have K3 := K2.le L3
  have nl' := L12.fresh nl
  have nx' := L12.fresh nx
  walk_at "tws"
  obtain ⟨vs, e, r⟩ := hl
  obtain ⟨vr, er, rr⟩ := hr
  have lvr := ia_len rr
  have lr_ := ia_len r
  have K3' := K3
  obtain ⟨kvs, ep, ed, rd⟩ := K3'
  have lkv := rd.len
  have ndl := K3.neL In
  have hw3 : ∀ b, b = ln → ∃ vs, g3 b = some (.lst vs) := fun b q => by obtain ⟨v, q2, _⟩ := In; exact ⟨v, by rw [q]; exact q2⟩
  have nlr : lr ≠ ln := by rintro rfl; rw [nl'] at er; cases er
  have L0 : Le g g3 := L13
  refine forV_q he (iter_dict (Room.handled hA') ed) (fun i ρ g' => ρ "heap" = some (.ref x) ∧ ρ "roots" = some (.ref lr) ∧ ρ "places" = some (.ref dp) ∧ ρ "new" = some (.ref xn) ∧ LeB (fun b => b = ln) g3 g' ∧ ∃ nn, IL g' ln nn ∧ slideW cells ps (ps.drop i) nn = some new) (fun _ _ _ q => q.2.2.2.2.1 _ _ ndl ed)
    ⟨by walk_at "rho", by walk_at "rho", by walk_at "rho", by walk_at "rho", LeB.refl _ _, [], In, m3⟩ ?_ ?_
  · clear In m3
    rintro i v ρ g0 g4 Qb kn kr hi ⟨p1, p2, p3, p4, L4, nn, In, hm⟩ ⟨⟨kk, xx, tt, hk, rfl⟩, rfl⟩
    have hi' : i < ps.length := by lia
    rw [List.drop_eq_getElem_cons hi'] at hm
    have hkk : kk = ps[i].1 := by
      have h1 : (kvs.map (·.1))[i]? = some kk := by rw [List.getElem?_map, hk]; rfl
      rw [rd.keys, List.getElem?_map, List.getElem?_eq_getElem hi'] at h1
      exact (Option.some.inj h1).symm
    generalize ps[i] = p at *
    obtain ⟨pa, pf⟩ := p
    simp only at hkk
    subst hkk
    unfold slideW at hm
    split at hm
    case isFalse => cases hm
    rename_i hb
    split at hm
    · cases hm
    rename_i hd hsome
    split at hm
    case isFalse => cases hm
    rename_i hb2
    split at hm
    · cases hm
    rename_i n1 hF
    obtain ⟨th, eh⟩ := ia_get r hsome
    have nlL : l ≠ ln := by rintro rfl; rw [nl'] at e; cases e
    have H4 : HO g4 x l lim := (H.le L0).leB L4 hw3
    have Hn4 : HO g4 xn ln lim := Hn.leB L4 hw3
    have e4 : g4 l = some (.lst vs) := L4 _ _ nlL (L0 _ _ e)
    walk_at "tws"
    refine h_cells W H4 ?_
    walk_at "tws"
    refine s_list (LIn.of e4) (o_getL (LIn.of e4) (by lia) (by lia) eh ?_)
    walk_at "tws"
    refine h_cells W Hn4 ?_
    walk_at "tws"
    obtain ⟨vn, en, rn⟩ := In
    have lvn := ia_len rn
    refine x_methL slot_list_append (by rfl) en ?_
    walk_at "tws"
    refine h_cells W H4 ?_
    walk_at "tws"
    refine s_list (LIn.of e4) (o_getL (LIn.of e4) (by lia) (by lia) eh ?_)
    walk_at "tws"
    refine o_append en (by rw [sizeLine_eq]; lia) ?_
    have L5 : LeB (fun b => b = ln) g3 (upd g4 ln (.lst (vn ++ [.int hd th]))) := L4.trans (LeB.upd (.inl rfl))
    have I5 : IL (upd g4 ln (.lst (vn ++ [.int hd th]))) ln (nn ++ [hd]) := IL.self (ia_app rn (ia_one _ _))
    generalize upd g4 ln (.lst (vn ++ [.int hd th])) = g5 at *
    clear en rn H4 Hn4 e4 L4 lvn
    walk_at "tws"
    refine o_range2 fun rr_ t1 t2 t3 nr => ?_
    refine forV_q he (iter_range (Room.handled hA') (upd_self ..) (by lia) (by lia) (by lia) (by lia)) (fun j ρ g' => ρ "heap" = some (.ref x) ∧ ρ "roots" = some (.ref lr) ∧ ρ "places" = some (.ref dp) ∧ ρ "new" = some (.ref xn) ∧ LeB (fun b => b = ln) g3 g' ∧
        ∃ nn, IL g' ln nn ∧ slideF cells ps ((hd / 8 / 16).toNat - j) (kk.toNat + 1 + j) nn = some n1) (fun _ _ _ _ => trivial)
      ⟨by walk_at "rho", by walk_at "rho", by walk_at "rho", by walk_at "rho", L5.trans (LeB.upd (.inr nr)), _, I5.upd (I5.ne nr), hF⟩ ?_ ?_
    · clear I5 hF L5 p1 p2 p3 p4
      rintro j v ρ g0 g4 Qb kn kr hj ⟨p1, p2, p3, p4, L4, nn, In, hmF⟩ ⟨⟨ti, rfl⟩, rfl⟩
      rw [show (hd / 8 / 16).toNat - j = ((hd / 8 / 16).toNat - (j + 1)) + 1 by lia] at hmF
      unfold slideF at hmF
      split at hmF
      · cases hmF
      rename_i w hw
      split at hmF
      · cases hmF
      rename_i w' hone
      split at hmF
      case isFalse => cases hmF
      rename_i hb3
      have eidx : (kk + 1 + (j : Int)).toNat = kk.toNat + 1 + j := by lia
      have hltw := (List.getElem?_eq_some_iff.mp hw).1
      obtain ⟨tw6, ew6⟩ := ia_get r hw
      have H4 : HO g4 x l lim := (H.le L0).leB L4 hw3
      have Hn4 : HO g4 xn ln lim := Hn.leB L4 hw3
      have e4 : g4 l = some (.lst vs) := L4 _ _ nlL (L0 _ _ e)
      obtain ⟨vn, en, rn⟩ := In
      have lvn := ia_len rn
      have K4 : KV g4 dp ps := ⟨kvs, ep, L4 _ _ ndl ed, rd⟩
      walk_at "tws"
      refine h_cells W Hn4 ?_
      walk_at "tws"
      refine x_methL slot_list_append (by rfl) en ?_
      walk_at "tws"
      refine h_cells W H4 ?_
      walk_at "tws"
      refine s_list (LIn.of e4) (o_getL (LIn.of e4) (by lia) (by lia) (by rw [eidx]; exact ew6) ?_)
      walk_at "tws"
      refine f_slid W (by walk_at "room") K4 hone fun t => ?_
      walk_at "tws"
      refine o_append en (by rw [sizeLine_eq]; lia) ?_
      walk_at "tws"
      exact kn _ _ ⟨by walk_at "rho", by walk_at "rho", by walk_at "rho", by walk_at "rho", L4.trans (LeB.upd (.inl rfl)), _, IL.self (ia_app rn (ia_one _ _)), hmF⟩
    · rintro ρ g4 ⟨p1, p2, p3, p4, L4, nn, In, hmF⟩
      rw [show (kk + 1 + hd / 8 / 16 - (kk + 1)).toNat = (hd / 8 / 16).toNat by lia, Nat.sub_self] at hmF
      unfold slideF at hmF
      cases hmF
      walk_at "tws"
      exact kn _ _ ⟨p1, p2, p3, p4, L4, _, In, hm⟩
  · clear In m3
    rintro ρ g4 ⟨p1, p2, p3, p4, L4, nn, In, hm⟩
    rw [List.drop_eq_nil_of_le (by lia)] at hm
    unfold slideW at hm
    cases hm
    walk_at "tws"
    have er4 : g4 lr = some (.lst vr) := L4 _ _ nlr (L0 _ _ er)
    refine comp_q (fun i ys g' => LeB (fun b => b = ln) g3 g' ∧ IL g' ln new ∧ ∃ rs rest, IntsAre ys rs ∧ slidAll ps (roots.drop i) = some rest ∧ rs ++ rest = rts) (iter_list (Room.handled hA') er4) (by rw [lvr, sizeLine_eq]; lia) (fun i ys g' q => q.1 _ _ nlr (L0 _ _ er)) (⟨L4, In, [], rts, .nil, m4, rfl⟩) ?_ ?_
    · clear In L4 er4
      rintro i ys v g0 g4 Kb kn hi hys ⟨L4, In, rs, rest, hrs, hmw, hcat⟩ ⟨hv, rfl⟩
      have hi' : i < roots.length := by lia
      rw [List.drop_eq_getElem_cons hi'] at hmw
      obtain ⟨tv, hv'⟩ := ia_get rr (List.getElem?_eq_getElem hi')
      rw [hv] at hv'
      cases hv'
      generalize roots[i] = w at *
      unfold slidAll at hmw
      split at hmw
      · cases hmw
      rename_i w' hone
      split at hmw
      · cases hmw
      rename_i r'' hrest
      cases hmw
      intro C hC
      have K4 : KV g4 dp ps := ⟨kvs, ep, L4 _ _ ndl ed, rd⟩
      walk_at "tws"
      refine f_slid W (by walk_at "room") K4 hone fun t => ?_
      exact kn _ _ ⟨L4, In, rs ++ [w'], r'', ia_app hrs (ia_one _ _), hrest, by rw [List.append_assoc]; exact hcat⟩
    · clear In L4 er4
      rintro ys g4 D hys ⟨L4, In, rs, rest, hrs, hmw, hcat⟩ nD
      rw [List.drop_eq_nil_of_le (by lia)] at hmw
      unfold slidAll at hmw
      cases hmw
      rw [List.append_nil] at hcat
      subst hcat
      have nDn : ln ≠ D := In.ne nD
      have Hn4 : HO g4 xn ln lim := Hn.leB L4 hw3
      have L5 : Le g (upd g4 D (.lst ys)) := fun b ao eb => by
        have h1 : b ≠ ln := by rintro rfl; rw [nl'] at eb; cases eb
        have h2 := L4 b ao h1 (L0 _ _ eb)
        have h3 : b ≠ D := by rintro rfl; rw [nD] at h2; cases h2
        rw [upd_ne h3]; exact h2
      have H5 := Hn4.updN (ao := .lst ys) nD
      have I5 : IL (upd g4 D (.lst ys)) ln new := In.upd nDn
      have I6 : IL (upd g4 D (.lst ys)) D rs := IL.self hrs
      have gD : g D = none := by
        cases q : g D with
        | none => rfl
        | some ao => have := L4 D ao (Ne.symm nDn) (L0 _ _ q); rw [nD] at this; cases this
      generalize upd g4 D (.lst ys) = g5 at *
      walk_at "tws"
      refine ⟨by walk_at "sz", fun T nT => ?_⟩
      walk_at "tws"
      exact h _ T xn ln D (L5.trans (Le.upd nT)) (upd_self ..) (H5.updN nT) (I5.upd (I5.ne nT)) (I6.upd (I6.ne nT)) nx' nl' gD nDn
end
end
-- part F10
section
set_option maxHeartbeats 1000000
theorem LeB.updF {W : Addr → Prop} {g g' : GH} {a : Addr} {ao : AO} (h : LeB W g g') (n : g a = none) : LeB W g (Mine.upd g' a ao) := fun b ao nb e => by
  have : b ≠ a := by rintro rfl; rw [n] at e; cases e
  rw [upd_ne this]; exact h _ _ nb e
/-- the law's well: a list of the script's copy, a place, a seed -/
structure Pot (g : GH) (lp ls : Addr) : Prop where
  ex : ∃ (at_ seed : Int) (t u : Tok) (script : List Int), g lp = some (.lst [.ref ls, .int at_ t, .int seed u]) ∧ IL g ls script ∧ script.length ≤ 1000 ∧ 0 ≤ at_ ∧ 0 ≤ seed ∧ seed ≤ 70000
  ne : ls ≠ lp
theorem Pot.upd {g : GH} {lp ls a : Addr} {ao : AO} (P : Pot g lp ls) (h1 : lp ≠ a) (h2 : ls ≠ a) : Pot (Mine.upd g a ao) lp ls := by
  obtain ⟨⟨at_, seed, t, u, script, e, i, r⟩, n⟩ := P
  exact ⟨⟨at_, seed, t, u, script, by rw [upd_ne h1]; exact e, i.upd h2, r⟩, n⟩
theorem Pot.has {g : GH} {lp ls : Addr} (P : Pot g lp ls) : g lp ≠ none ∧ g ls ≠ none := by
  obtain ⟨⟨at_, seed, t, u, script, e, ⟨vs, e2, _⟩, r⟩, n⟩ := P
  exact ⟨by rw [e]; simp, by rw [e2]; simp⟩
theorem Pot.ne1 {g : GH} {lp ls a : Addr} (P : Pot g lp ls) (h : g a = none) : lp ≠ a ∧ ls ≠ a := ⟨fun q => P.has.1 (q ▸ h), fun q => P.has.2 (q ▸ h)⟩
theorem Pot.le {g g' : GH} {lp ls : Addr} (P : Pot g lp ls) (h : Le g g') : Pot g' lp ls := by
  obtain ⟨⟨at_, seed, t, u, script, e, i, r⟩, n⟩ := P
  exact ⟨⟨at_, seed, t, u, script, h _ _ e, i.le h, r⟩, n⟩
section
variable {c : Cx} {F : Fm} {A : Around} {g : GH} {Q : Value → GH → Prop} {w w' n k many : Int} {t u : Tok} {x l d lp ls : Addr} {env : Env}
theorem f_dip (W : Facts c) (hA : Room 1 A) (P : Pot g lp ls) (hm : 0 < many) (h : ∀ g' d t, LeB (fun b => b = lp) g g' → Pot g' lp ls → 0 ≤ d → d < many → Q (.int d t) g') : TW c F A (call (.ref 341) [.ref lp, .int many u]) g Q := by
  refine f_callL [("pot", .ref lp), ("many", .int many u)] W.ok (W.fn 48 341 (by rfl)) hA (by rfl) (by decide +kernel) (by intros; rfl) (by rfl) ?_
  intro L qual cd A' ev he hA'
  obtain ⟨⟨at_, seed, ta, tu, script, e, ⟨vs, ev, rv⟩, hs, h0, hs0, hs1⟩, nls⟩ := P
  have lv := ia_len rv
  walk_at "tws"
  refine s_list (LIn.of e) (o_getL (LIn.of e) (by lia) (by lia) (by rfl) ?_)
  walk_at "tws"
  refine o_setL e (by lia) (by lia) (by simp) ?_
  generalize hg1 : upd g lp _ = g1
  have L1 : LeB (fun b => b = lp) g g1 := by rw [← hg1]; exact LeB.upd (.inl rfl)
  obtain ⟨t1, e1⟩ : ∃ t1, g1 lp = some (.lst [.ref ls, .int (at_ + 1) t1, .int seed tu]) := ⟨_, by rw [← hg1]; exact upd_self ..⟩
  have ev1 : g1 ls = some (.lst vs) := L1 _ _ nls ev
  clear hg1
  walk_at "tws"
  refine s_list (LIn.of e1) (o_getL (LIn.of e1) (by lia) (by lia) (by rfl) ?_)
  walk_at "tws"
  refine o_len (LIn.of ev1) (by lia) fun t2 => ?_
  walk_at "tws"
  refine ifS (fun q => ?_) (fun q => ?_)
  · have q' : at_.toNat < script.length := by simp at q; lia
    obtain ⟨t3, e3⟩ := ia_get rv (List.getElem?_eq_getElem q')
    walk_at "tws"
    refine s_list (LIn.of e1) (o_getL (LIn.of e1) (by lia) (by lia) (by rfl) ?_)
    walk_at "tws"
    refine s_list (LIn.of ev1) (o_getL (LIn.of ev1) (by lia) (by lia) e3 ?_)
    walk_at "tws"
    refine o_mod8 hm fun t4 => ?_
    walk_at "tws"
    exact h _ _ _ L1 ⟨⟨_, _, _, _, script, e1, ⟨vs, ev1, rv⟩, hs, by lia, hs0, hs1⟩, nls⟩ (Int.emod_nonneg _ (by lia)) (Int.emod_lt_of_pos _ hm)
  · walk_at "tws"
    refine s_list (LIn.of e1) (o_getL (LIn.of e1) (by lia) (by lia) (by rfl) ?_)
    walk_at "tws"
    refine o_setL e1 (by lia) (by lia) (by simp) ?_
    generalize hg2 : upd g1 lp _ = g2
    have L2 : LeB (fun b => b = lp) g g2 := by rw [← hg2]; exact L1.trans (LeB.upd (.inl rfl))
    obtain ⟨t5, e5⟩ : ∃ t5, g2 lp = some (.lst [.ref ls, .int (at_ + 1) t1, .int ((seed * 75 + 74) % 65537) t5]) := ⟨_, by rw [← hg2]; exact upd_self ..⟩
    have ev2 : g2 ls = some (.lst vs) := L2 _ _ nls ev
    clear hg2
    walk_at "tws"
    refine s_list (LIn.of e5) (o_getL (LIn.of e5) (by lia) (by lia) (by rfl) ?_)
    walk_at "tws"
    refine o_mod8 hm fun t4 => ?_
    exact h _ _ _ L2 ⟨⟨_, _, _, _, script, e5, ⟨vs, ev2, rv⟩, hs, by lia, by lia, by lia⟩, nls⟩ (Int.emod_nonneg _ (by lia)) (Int.emod_lt_of_pos _ hm)
theorem sum_bound : ∀ (ns : List Int), (∀ n ∈ ns, 0 ≤ n ∧ n < 1009) → 0 ≤ ns.sum ∧ ns.sum ≤ 1009 * ns.length
  | [], _ => by simp
  | n :: r, h => by
    have h1 := h n (by simp)
    have h2 := sum_bound r fun m hm => h m (by simp [hm])
    simp only [List.sum_cons, List.length_cons]
    lia
theorem f_pot {vs : List Value} {ns : List Int} (W : Facts c) (hA : Room 1 A) (hl : ∀ g, LIn c g l vs) (hi : IntsAre vs ns) (hz : ns.length ≤ 63) (h : ∀ g' lp ls, Le g g' → Pot g' lp ls → g lp = none → g ls = none → Q (.ref lp) g') : TW c F A (call (.ref 334) [.ref l]) g Q := by
  refine f_callL [("script", .ref l)] W.ok (W.fn 47 334 (by rfl)) hA (by rfl) (by decide +kernel) (by intros; rfl) (by rfl) ?_
  intro L qual cd A' ev he hA'
  have lv := ia_len hi
  walk_at "tws"
  refine ⟨l, vs, _, _, rfl, hl _, (by rw [sizeLine_eq]; lia), .none, .int _ _, fun d nd => ?_⟩
  have sl := kmk_upto hi (y := 63) (by lia)
  have ls := ia_len sl
  have hlt : (ns.take (63 : Int).toNat).length ≤ 63 := by rw [List.length_take]; lia
  generalize (slicePick vs.toArray none (some 63) none).toList = sv at *
  generalize ns.take (63 : Int).toNat = sn at *
  have ed : (upd g d (.lst sv)) d = some (.lst sv) := upd_self ..
  have L1 : Le g (upd g d (.lst sv)) := Le.upd nd
  generalize upd g d (.lst sv) = g1 at *
  walk_at "tws"
  refine o_listOf (LIn.of ed) (by rw [sizeLine_eq]; lia) fun lsc nlsc => ?_
  have ec : (upd g1 lsc (.lst sv)) lsc = some (.lst sv) := upd_self ..
  have L2 : Le g (upd g1 lsc (.lst sv)) := L1.trans (Le.upd nlsc)
  have nlsc' := L1.fresh nlsc
  generalize upd g1 lsc (.lst sv) = g2 at *
  walk_at "tws"
  refine ⟨l, vs, _, _, rfl, hl _, (by rw [sizeLine_eq]; lia), .none, .int _ _, fun d2 nd2 => ?_⟩
  have sl := kmk_upto hi (y := 63) (by lia)
  have ls := ia_len sl
  have hlt : (ns.take (63 : Int).toNat).length ≤ 63 := by rw [List.length_take]; lia
  generalize (slicePick vs.toArray none (some 63) none).toList = sv2 at *
  generalize ns.take (63 : Int).toNat = sn2 at *
  have ed2 : (upd g2 d2 (.lst sv2)) d2 = some (.lst sv2) := upd_self ..
  have L3 : Le g (upd g2 d2 (.lst sv2)) := L2.trans (Le.upd nd2)
  have ec3 : (upd g2 d2 (.lst sv2)) lsc = some (.lst sv) := Le.upd nd2 _ _ ec
  generalize upd g2 d2 (.lst sv2) = g3 at *
  refine comp_q (fun i ys g' => g' = g3 ∧ ∃ ms, IntsAre ys ms ∧ ∀ m ∈ ms, 0 ≤ m ∧ m < 1009) (iter_list (Room.handled hA') ed2) (by rw [sizeLine_eq]; lia) (fun i ys g' q => by rw [q.1]; exact ed2) (⟨rfl, [], .nil, by simp⟩) ?_ ?_
  · rintro i ys v g4 g5 Kb kn hi5 hys ⟨rfl, ms, hms, hb⟩ ⟨hv, rfl⟩
    have hi' : i < sn2.length := by lia
    obtain ⟨tv, hv'⟩ := ia_get sl (List.getElem?_eq_getElem hi')
    rw [hv] at hv'
    cases hv'
    generalize sn2[i] = w at *
    intro C hC
    walk_at "tws"
    refine o_int ?_
    walk_at "tws"
    refine kn _ _ ⟨rfl, ms ++ [w % 1009], ia_app hms (ia_one _ _), fun m hm => ?_⟩
    rcases List.mem_append.mp hm with hm | hm
    · exact hb m hm
    · simp at hm; subst hm; lia
  · rintro ys g4 D hys ⟨rfl, ms, hms, hb⟩ nD
    have lms := ia_len hms
    have sb := sum_bound ms hb
    walk_at "tws"
    refine o_sum (Room.handled hA') (LIn.of (upd_self ..)) hms fun t => ?_
    walk_at "tws"
    refine ⟨by walk_at "sz", fun lp nlp => ?_⟩
    walk_at "tws"
    have L5 : Le g (upd g4 D (.lst ys)) := L3.trans (Le.upd nD)
    have nlp' := L5.fresh nlp
    have ec5 : upd g4 D (.lst ys) lsc = some (.lst sv) := Le.upd nD _ _ ec3
    generalize upd g4 D (.lst ys) = g5 at *
    have nn : lsc ≠ lp := by rintro rfl; rw [nlp] at ec5; cases ec5
    exact h _ lp lsc (L5.trans (Le.upd nlp)) ⟨⟨0, _, _, _, sn, upd_self .., ⟨sv, by rw [upd_ne nn]; exact ec5, ‹IntsAre sv sn›⟩, by lia, by lia, by lia, by lia⟩, nn⟩ nlp' nlsc'
end
end
-- part F11
section
set_option maxHeartbeats 1000000
noncomputable def TupI (g : GH) (T : Addr) (a b : Int) : Prop := ∃ t u, g T = some (.tup [.int a t, .int b u])
theorem TupI.leB {W : Addr → Prop} {g g' : GH} {T : Addr} {a b : Int} (x : TupI g T a b) (h : LeB W g g') (hw : ∀ b, W b → ∃ vs, g b = some (.lst vs)) : TupI g' T a b := by
  obtain ⟨t, u, e⟩ := x
  exact ⟨t, u, h _ _ (fun q => by obtain ⟨vs, e'⟩ := hw _ q; rw [e] at e'; cases e') e⟩
inductive PairsAre (g : GH) : List Value → List (Int × Int) → Prop
  | nil : PairsAre g [] []
  | cons {T : Addr} {a b : Int} {vs : List Value} {ps : List (Int × Int)} : TupI g T a b → PairsAre g vs ps → PairsAre g (.ref T :: vs) ((a, b) :: ps)
theorem PairsAre.leB {W : Addr → Prop} {g g' : GH} (h : LeB W g g') (hw : ∀ b, W b → ∃ vs, g b = some (.lst vs)) : ∀ {vs : List Value} {ps : List (Int × Int)}, PairsAre g vs ps → PairsAre g' vs ps
  | _, _, .nil => .nil
  | _, _, .cons x r => .cons (x.leB h hw) (PairsAre.leB h hw r)
theorem PairsAre.le {g g' : GH} (h : Le g g') {vs : List Value} {ps : List (Int × Int)} (x : PairsAre g vs ps) : PairsAre g' vs ps := x.leB (W := fun _ => False) (fun b ao _ e => h b ao e) (fun _ q => q.elim)
theorem PairsAre.len {g : GH} : ∀ {vs : List Value} {ps : List (Int × Int)}, PairsAre g vs ps → vs.length = ps.length
  | _, _, .nil => rfl
  | _, _, .cons x r => by simp [PairsAre.len r]
theorem PairsAre.app {g : GH} : ∀ {vs ws : List Value} {ps qs : List (Int × Int)}, PairsAre g vs ps → PairsAre g ws qs → PairsAre g (vs ++ ws) (ps ++ qs)
  | _, _, _, _, .nil, h => h
  | _, _, _, _, .cons x r, h => .cons x (PairsAre.app r h)
theorem PairsAre.at {g : GH} : ∀ {vs : List Value} {ps : List (Int × Int)}, PairsAre g vs ps → ∀ {i : Nat} {v : Value}, vs[i]? = some v → ∃ T a b, v = .ref T ∧ TupI g T a b ∧ ps[i]? = some (a, b)
  | _, _, .nil, i, v, h => by simp at h
  | _, _, .cons x r, 0, v, h => by simp at h; subst h; exact ⟨_, _, _, rfl, x, rfl⟩
  | _, _, .cons x r, i + 1, v, h => by simpa using PairsAre.at r (by simpa using h)
/-- a list of pairs of ints -/
noncomputable def PL (g : GH) (l : Addr) (ps : List (Int × Int)) : Prop := ∃ vs, g l = some (.lst vs) ∧ PairsAre g vs ps
theorem PL.le {g g' : GH} {l : Addr} {ps : List (Int × Int)} (x : PL g l ps) (h : Le g g') : PL g' l ps := let ⟨vs, e, r⟩ := x; ⟨vs, h _ _ e, r.le h⟩

noncomputable def PlainOk (w : Int) : Prop := w % 8 = 0 ∨ w % 8 = 2 ∨ w % 8 = 4
noncomputable def PartOk (m : Int) (p : Int × Int) : Prop := (0 ≤ p.1 ∧ p.1 < m ∧ p.2 = 0) ∨ (p.1 = -1 ∧ PlainOk p.2)
noncomputable def ShapeOk (p : Int × Int) : Prop := 0 ≤ p.1 ∧ p.1 < 8 ∧ 0 ≤ p.2 ∧ p.2 ≤ 4 ∧ (0 ≤ kszs p.1 → p.2 = kszs p.1)
theorem three {d : Int} (h0 : 0 ≤ d) (h : d < 3) : d = 0 ∨ d = 1 ∨ d = 2 := by lia

section
variable {c : Cx} {F : Fm} {A : Around} {g : GH} {Q : Value → GH → Prop} {w w' n k many : Int} {t u : Tok} {x l d lp ls : Addr} {env : Env}
theorem f_part (W : Facts c) (hA : Room 2 A) (P : Pot g lp ls) (hm : 0 < many) (h : ∀ g' T a b, LeB (fun b => b = lp) g g' → Pot g' lp ls → TupI g' T a b → g T = none → PartOk many (a, b) → Q (.ref T) g') :
    TW c F A (call (.ref 355) [.ref lp, .int many u]) g Q := by
  refine f_callL [("pot", .ref lp), ("many", .int many u)] W.ok (W.fn 50 355 (by rfl)) hA (by rfl) (by decide +kernel) (by intros; rfl) (by rfl) ?_
  intro L qual cd A' ev he hA'
  walk_at "tws"
  refine f_dip W (by walk_at "room") P (by decide) fun g1 d1 t1 L1 P1 d0 dl => ?_
  walk_at "tws"
  have fresh : ∀ {g' : GH} {T : Addr}, LeB (fun b => b = lp) g g' → Pot g' lp ls → g' T = none → g T = none := fun {g' T} L P n => by
    cases q : g T with
    | none => rfl
    | some ao =>
      have : T ≠ lp := by rintro rfl; exact P.has.1 n
      have := L _ _ this q
      rw [n] at this; cases this
  refine ifS (fun q => ?_) (fun q => ?_)
  · walk_at "tws"
    refine f_dip W (by walk_at "room") P1 hm fun g2 d2 t2 L2 P2 d20 d2l => ?_
    walk_at "tws"
    refine ⟨by walk_at "sz", fun T nT => ?_⟩
    have L12 := L1.trans L2
    have ne := P2.ne1 nT
    walk_at "tws"
    exact h _ T d2 0 (L12.updF (fresh L12 P2 nT)) (P2.upd ne.1 ne.2) ⟨_, _, upd_self ..⟩ (fresh L12 P2 nT) (.inl ⟨d20, d2l, rfl⟩)
  · walk_at "tws"
    refine f_dip W (by walk_at "room") P1 (by decide) fun g2 d2 t2 L2 P2 d20 d2l => ?_
    walk_at "tws"
    refine ⟨by walk_at "sz", fun D nD => ?_⟩
    have L12 := L1.trans L2
    have ne := P2.ne1 nD
    generalize hg3 : upd g2 D _ = g3
    have L3 : LeB (fun b => b = lp) g g3 := by rw [← hg3]; exact L12.updF (fresh L12 P2 nD)
    have P3 : Pot g3 lp ls := by rw [← hg3]; exact P2.upd ne.1 ne.2
    have nDp : D ≠ lp := ne.1.symm
    obtain ⟨ta, tb, tc, e3⟩ : ∃ ta tb tc, g3 D = some (.lst [.int ((d2 - 4) * 8 + 0) ta, .int (97 * 8 + 2) tb, .int 12 tc]) := ⟨_, _, _, by rw [← hg3]; exact upd_self ..⟩
    clear hg3
    walk_at "tws"
    refine f_dip W (by walk_at "room") P3 (by decide) fun g4 d4 t4 L4 P4 d40 d4l => ?_
    have L14 := L3.trans L4
    have e4 := L4 _ _ nDp e3
    have key : ∃ w t, [Value.int ((d2 - 4) * 8 + 0) ta, .int (97 * 8 + 2) tb, .int 12 tc][d4.toNat]? = some (.int w t) ∧ PlainOk w := by
      rcases three d40 d4l with rfl | rfl | rfl
      · exact ⟨_, _, rfl, .inl (by lia)⟩
      · exact ⟨_, _, rfl, .inr (.inl (by lia))⟩
      · exact ⟨_, _, rfl, .inr (.inr (by lia))⟩
    obtain ⟨w, tw, ew, hw⟩ := key
    refine s_list (LIn.of e4) (o_getL (LIn.of e4) d40 (by lia) ew ?_)
    walk_at "tws"
    refine ⟨by walk_at "sz", fun T nT => ?_⟩
    have ne := P4.ne1 nT
    exact h _ T (-1) w (L14.updF (fresh L14 P4 nT)) (P4.upd ne.1 ne.2) ⟨_, _, upd_self ..⟩ (fresh L14 P4 nT) (.inr ⟨rfl, hw⟩)
theorem f_shapes (W : Facts c) (hA : Room 2 A) (P : Pot g lp ls) (h : ∀ g' lf ps, LeB (fun b => b = lp) g g' → Pot g' lp ls → PL g' lf ps → g lf = none → 1 ≤ ps.length → ps.length ≤ 8 → (∀ p ∈ ps, ShapeOk p) → Q (.ref lf) g') :
    TW c F A (call (.ref 348) [.ref lp]) g Q := by
  refine f_callL [("pot", .ref lp)] W.ok (W.fn 49 348 (by rfl)) hA (by rfl) (by decide +kernel) (by intros; rfl) (by rfl) ?_
  intro L qual cd A' ev he hA'
  walk_at "tws"
  refine ⟨by walk_at "sz", fun lf nlf => ?_⟩
  have ne := P.ne1 nlf
  have P1 : Pot (upd g lf (.lst [])) lp ls := P.upd ne.1 ne.2
  have L1 : LeB (fun b => b = lp) g (upd g lf (.lst [])) := LeB.upd (.inr nlf)
  have e1 : (upd g lf (.lst [])) lf = some (.lst []) := upd_self ..
  generalize upd g lf (.lst []) = g1 at *
  walk_at "tws"
  refine f_dip W (by walk_at "room") P1 (by decide) fun g2 d2 t2 L2 P2 d20 d2l => ?_
  have L12 := L1.trans L2
  have e2 := L2 _ _ ne.1.symm e1
  walk_at "tws"
  refine o_range1 fun rr t1 t2 t3 nr => ?_
  have ne2 := P2.ne1 nr
  have nrf : lf ≠ rr := by rintro rfl; rw [nr] at e2; cases e2
  have fresh : ∀ {g' : GH} {T : Addr}, LeB (fun b => b = lp) g g' → Pot g' lp ls → g' T = none → g T = none := fun {g' T} L P n => by
    cases q : g T with
    | none => rfl
    | some ao =>
      have : T ≠ lp := by rintro rfl; exact P.has.1 n
      have := L _ _ this q
      rw [n] at this; cases this
  refine forV_q he (iter_range (Room.handled hA') (upd_self ..) (by lia) (by lia) (by lia) (by lia)) (fun i ρ g' => ρ "pot" = some (.ref lp) ∧ ρ "found" = some (.ref lf) ∧ LeB (fun b => b = lp) g g' ∧ Pot g' lp ls ∧ ∃ vs ps, g' lf = some (.lst vs) ∧ PairsAre g' vs ps ∧ ps.length = i ∧ ∀ p ∈ ps, ShapeOk p) (fun _ _ _ _ => trivial)
    ⟨by walk_at "rho", by walk_at "rho", L12.updF (fresh L12 P2 nr), P2.upd ne2.1 ne2.2, [], [], by rw [upd_ne nrf]; exact e2, .nil, rfl, by simp⟩ ?_ ?_
  · rintro i v ρ g0 g3 Qb kn kr hi ⟨p1, p2, L3, P3, vs, ps, e3, r3, hlen, hok⟩ ⟨⟨ti, rfl⟩, rfl⟩
    walk_at "tws"
    refine ⟨by walk_at "sz", fun D nD => ?_⟩
    have ne3 := P3.ne1 nD
    have nfD : lf ≠ D := by rintro rfl; rw [nD] at e3; cases e3
    generalize hg4 : upd g3 D _ = g4
    have L34 : Le g3 g4 := by rw [← hg4]; exact Le.upd nD
    have L4 : LeB (fun b => b = lp) g g4 := L3.trans L34.leB
    have P4 : Pot g4 lp ls := P3.le L34
    have e4 := L34 _ _ e3
    have r4 := r3.le L34
    obtain ⟨ta, tb, tc, td, te, tf, eD⟩ : ∃ ta tb tc td te tf, g4 D = some (.lst [.int 0 ta, .int 4 tb, .int 1 tc, .int 2 td, .int 5 te, .int 3 tf]) := ⟨_, _, _, _, _, _, by rw [← hg4]; exact upd_self ..⟩
    clear hg4 P3 e3 r3 L3 L34
    walk_at "tws"
    refine f_dip W (by walk_at "room") P4 (by decide) fun g5 d5 t5 L5 P5 d50 d5l => ?_
    have hw4 : ∀ b, b = lp → ∃ vs, g4 b = some (.lst vs) := fun b q => by obtain ⟨⟨a1, a2, a3, a4, a5, a6, _⟩, _⟩ := P4; exact ⟨_, by rw [q]; exact a6⟩
    have L15 := L4.trans L5
    have e5 := L5 _ _ ne.1.symm e4
    have r5 := r4.leB L5 hw4
    have eD5 := L5 _ _ ne3.1.symm eD
    have key : ∃ w t, [Value.int 0 ta, .int 4 tb, .int 1 tc, .int 2 td, .int 5 te, .int 3 tf][d5.toNat]? = some (.int w t) ∧ 0 ≤ w ∧ w < 6 := by
      have : d5 = 0 ∨ d5 = 1 ∨ d5 = 2 ∨ d5 = 3 ∨ d5 = 4 ∨ d5 = 5 := by lia
      rcases this with rfl | rfl | rfl | rfl | rfl | rfl <;> exact ⟨_, _, rfl, by lia, by lia⟩
    obtain ⟨w, tw, ew, w0, w6⟩ := key
    refine s_list (LIn.of eD5) (o_getL (LIn.of eD5) d50 (by lia) ew ?_)
    clear eD eD5 ew e4 r4 P4 L4 hw4 L5
    walk_at "tws"
    refine ⟨[(0, .int 2 _), (4, .int 1 _), (5, .int 2 _)], ⟨by exact (intKind_is _ _ _ _), rfl, by exact (intKind_is _ _ _ _), rfl, by exact (intKind_is _ _ _ _), rfl, trivial⟩, fun d ep nd => ?_⟩
    have ne5 := P5.ne1 nd
    generalize hg6 : upd g5 d _ = g6
    have L56 : Le g5 g6 := by rw [← hg6]; exact Le.upd nd
    have L6 : LeB (fun b => b = lp) g g6 := L15.trans L56.leB
    have P6 : Pot g6 lp ls := P5.le L56
    have e6 := L56 _ _ e5
    have r6 := r5.le L56
    obtain ⟨ta', tb', tc', ed⟩ : ∃ ta tb tc, g6 d = some (.dic [(0, .int 2 ta), (4, .int 1 tb), (5, .int 2 tc)] ep) := ⟨_, _, _, by rw [← hg6]; exact upd_self ..⟩
    clear hg6 P5 e5 r5 L15 L56
    walk_at "tws"
    refine x_methD ed ?_
    walk_at "tws"
    refine o_getDef ed ?_
    have key2 : ∀ t, ∃ t', (valueAt [(0, Value.int 2 ta'), (4, .int 1 tb'), (5, .int 2 tc')] w).getD (.int (-1) t) = .int (kszs w) t' := by
      intro t
      have : w = 0 ∨ w = 1 ∨ w = 2 ∨ w = 3 ∨ w = 4 ∨ w = 5 := by lia
      rcases this with rfl | rfl | rfl | rfl | rfl | rfl <;> exact ⟨_, rfl⟩
    obtain ⟨tk, ek⟩ := key2 ‹_›
    rw [show ((-1 : Int)) = -1 from rfl] at ek
    rw [ek]
    clear ed
    walk_at "tws"
    refine x_methL slot_list_append (by rfl) e6 ?_
    walk_at "twi"
    refine TW.mono (Q := fun v g' => ∃ z t, v = .int z t ∧ ShapeOk (w, z) ∧ LeB (fun b => b = lp) g g' ∧ Pot g' lp ls ∧ g' lf = some (.lst vs) ∧ PairsAre g' vs ps) ?_ ?_
    · walk_at "tws"
      refine ifS (fun q => ?_) (fun q => ?_)
      · walk_at "tws"
        have q' : 0 ≤ kszs w := by simpa using q
        have : w = 0 ∨ w = 1 ∨ w = 2 ∨ w = 3 ∨ w = 4 ∨ w = 5 := by lia
        refine ⟨_, _, rfl, ⟨w0, by simp; lia, q', ?_, fun _ => rfl⟩, L6, P6, e6, r6⟩
        rcases this with rfl | rfl | rfl | rfl | rfl | rfl <;> decide
      · have q' : ¬ 0 ≤ kszs w := by simpa using q
        walk_at "tws"
        refine f_dip W (by walk_at "room") P6 (by decide) fun g7 d7 t7 L7 P7 d70 d7l => ?_
        have hw6 : ∀ b, b = lp → ∃ vs, g6 b = some (.lst vs) := fun b q => by obtain ⟨⟨a1, a2, a3, a4, a5, a6, _⟩, _⟩ := P6; exact ⟨_, by rw [q]; exact a6⟩
        have L17 := L6.trans L7
        have e7 := L7 _ _ ne.1.symm e6
        have r7 := r6.leB L7 hw6
        walk_at "tws"
        refine ifS (fun q => ?_) (fun q => ?_)
        · walk_at "tws"
          exact ⟨_, _, rfl, ⟨w0, by simp; lia, by simp; lia, by simp; lia, fun z => absurd z q'⟩, L17, P7, e7, r7⟩
        · walk_at "tws"
          exact ⟨_, _, rfl, ⟨w0, by simp; lia, by simp; lia, by simp; lia, fun z => absurd z q'⟩, L17, P7, e7, r7⟩
    clear L6 P6 e6 r6
    rintro _ g6 ⟨z, tz, rfl, sok, L6, P6, e6, r6⟩
    walk_at "tws"
    refine ⟨by walk_at "sz", fun T nT => ?_⟩
    have ne6 := P6.ne1 nT
    generalize hg7 : upd g6 T _ = g7
    have L67 : Le g6 g7 := by rw [← hg7]; exact Le.upd nT
    have L7 : LeB (fun b => b = lp) g g7 := L6.trans L67.leB
    have P7 : Pot g7 lp ls := P6.le L67
    have e7 := L67 _ _ e6
    have r7 := r6.le L67
    have eT : TupI g7 T w z := ⟨_, _, by rw [← hg7]; exact upd_self ..⟩
    clear hg7 L67 P6 e6 r6
    have lvs := r7.len
    walk_at "tws"
    refine o_append e7 (by rw [sizeLine_eq]; lia) ?_
    walk_at "tws"
    have L8 : LeB (fun b => b = lf) g7 (upd g7 lf (.lst (vs ++ [.ref T]))) := LeB.upd (.inl rfl)
    have hw7 : ∀ b, b = lf → ∃ vs, g7 b = some (.lst vs) := fun b q => ⟨vs, by rw [q]; exact e7⟩
    refine kn _ _ ⟨by walk_at "rho", by walk_at "rho", L7.updF nlf, P7.upd ne.1 ne.2, _, ps ++ [(w, z)], upd_self .., (r7.leB L8 hw7).app (.cons (eT.leB L8 hw7) .nil), by simp [hlen], fun p hp => ?_⟩
    rcases List.mem_append.mp hp with hp | hp
    · exact hok p hp
    · simp at hp; subst hp; exact sok
  · rintro ρ g3 ⟨p1, p2, L3, P3, vs, ps, e3, r3, hlen, hok⟩
    walk_at "tws"
    exact h _ lf ps L3 P3 ⟨vs, e3, r3⟩ nlf (by lia) (by lia) hok
end
end
local macro_rules | `(tactic| walk_at "tup") => `(tactic| (refine a_Tuple (by assumption) (Room.handled (by assumption)) (by assumption) (by rfl) ?_; (show BW _ _ _ (assignInOrder [assign _ _, assign _ _] [_, _]) _ _ _)))
local macro_rules | `(tactic| walk_at "tw") => `(tactic| ((with_reducible show BW _ _ _ (execs (Stmt.Assign [Expr.Tuple _ _ _] _ _ :: _) _) _ _ _); refine s_AssignT (by assumption) ?_))
local macro_rules | `(tactic| walk_at "tw") => `(tactic| ((with_reducible show BW _ _ _ (PySem.bindName _ _ _) _ _ _); refine BW.bindName (BW.store_cell (by assumption) (by rfl) (by rfl) (by rfl) ?_)))
local macro_rules | `(tactic| walk_at "tw") => `(tactic| ((with_reducible show BW _ _ _ (assign (Expr.Name _ _) _ _) _ _ _); refine a_Name (by assumption) (BW.store_cell (by assumption) (by rfl) (by rfl) (by rfl) ?_)))
local macro_rules | `(tactic| walk_at "tw") => `(tactic| ((with_reducible show TW _ _ _ (eval (Expr.Attribute (Expr.Subscript _ _ _) _ _) _) _ _); refine e_Attr' ?_))
-- part F12
section
set_option maxHeartbeats 1000000
inductive PLsAre (g₀ g : GH) : List Value → List (List (Int × Int)) → Prop
  | nil : PLsAre g₀ g [] []
  | cons {a : Addr} {ps : List (Int × Int)} {vs : List Value} {pss : List (List (Int × Int))} : g₀ a = none → PL g a ps → PLsAre g₀ g vs pss → PLsAre g₀ g (.ref a :: vs) (ps :: pss)
theorem PL.leB {W : Addr → Prop} {g g' : GH} {l : Addr} {ps : List (Int × Int)} (x : PL g l ps) (h : LeB W g g') (hw : ∀ b, W b → ∃ vs, g b = some (.lst vs)) (n : ¬ W l) : PL g' l ps := let ⟨vs, e, r⟩ := x; ⟨vs, h _ _ n e, r.leB h hw⟩
theorem PLsAre.leB {W : Addr → Prop} {g₀ g g' : GH} (h : LeB W g g') (hw : ∀ b, W b → ∃ vs, g b = some (.lst vs)) (h0 : ∀ b, W b → g₀ b ≠ none) : ∀ {vs : List Value} {pss : List (List (Int × Int))}, PLsAre g₀ g vs pss → PLsAre g₀ g' vs pss
  | _, _, .nil => .nil
  | _, _, .cons n x r => .cons n (x.leB h hw fun q => h0 _ q n) (PLsAre.leB h hw h0 r)
theorem PLsAre.le {g₀ g g' : GH} (h : Le g g') {vs : List Value} {pss : List (List (Int × Int))} (x : PLsAre g₀ g vs pss) : PLsAre g₀ g' vs pss := x.leB (W := fun _ => False) (fun b ao _ e => h b ao e) (fun _ q => q.elim) (fun _ q => q.elim)
theorem PLsAre.base {g₀ g₀' g : GH} (h : ∀ b, g₀ b = none → g₀' b = none) : ∀ {vs : List Value} {pss : List (List (Int × Int))}, PLsAre g₀ g vs pss → PLsAre g₀' g vs pss
  | _, _, .nil => .nil
  | _, _, .cons n x r => .cons (h _ n) x (PLsAre.base h r)
theorem PLsAre.len {g₀ g : GH} : ∀ {vs : List Value} {pss : List (List (Int × Int))}, PLsAre g₀ g vs pss → vs.length = pss.length
  | _, _, .nil => rfl
  | _, _, .cons n x r => by simp [PLsAre.len r]
theorem PLsAre.app {g₀ g : GH} : ∀ {vs ws : List Value} {ps qs : List (List (Int × Int))}, PLsAre g₀ g vs ps → PLsAre g₀ g ws qs → PLsAre g₀ g (vs ++ ws) (ps ++ qs)
  | _, _, _, _, .nil, h => h
  | _, _, _, _, .cons n x r, h => .cons n x (PLsAre.app r h)
theorem PLsAre.at {g₀ g : GH} : ∀ {vs : List Value} {pss : List (List (Int × Int))}, PLsAre g₀ g vs pss → ∀ {i : Nat} {v : Value}, vs[i]? = some v → ∃ a ps, v = .ref a ∧ g₀ a = none ∧ PL g a ps ∧ pss[i]? = some ps
  | _, _, .nil, i, v, h => by simp at h
  | _, _, .cons n x r, 0, v, h => by simp at h; subst h; exact ⟨_, _, rfl, n, x, rfl⟩
  | _, _, .cons n x r, i + 1, v, h => by simpa using PLsAre.at r (by simpa using h)
theorem PLsAre.get {g₀ g : GH} : ∀ {vs : List Value} {pss : List (List (Int × Int))}, PLsAre g₀ g vs pss → ∀ {i : Nat} {ps : List (Int × Int)}, pss[i]? = some ps → ∃ a, vs[i]? = some (.ref a) ∧ g₀ a = none ∧ PL g a ps
  | _, _, .nil, i, v, h => by simp at h
  | _, _, .cons n x r, 0, v, h => by simp at h; subst h; exact ⟨_, rfl, n, x⟩
  | _, _, .cons n x r, i + 1, v, h => by simpa using PLsAre.get r (by simpa using h)
inductive Fits (m : Int) : List (Int × Int) → List (List (Int × Int)) → Prop
  | nil : Fits m [] []
  | cons {s : Int × Int} {ps : List (Int × Int)} {ss pss} : (ps.length : Int) = s.2 → (∀ p ∈ ps, PartOk m p) → Fits m ss pss → Fits m (s :: ss) (ps :: pss)
theorem Fits.len {m : Int} : ∀ {ss : List (Int × Int)} {pss : List (List (Int × Int))}, Fits m ss pss → pss.length = ss.length
  | _, _, .nil => rfl
  | _, _, .cons _ _ r => by simp [Fits.len r]
theorem Fits.snoc {m : Int} : ∀ {ss : List (Int × Int)} {pss : List (List (Int × Int))}, Fits m ss pss → ∀ {s : Int × Int} {ps : List (Int × Int)}, (ps.length : Int) = s.2 → (∀ p ∈ ps, PartOk m p) → Fits m (ss ++ [s]) (pss ++ [ps])
  | _, _, .nil, s, ps, h1, h2 => .cons h1 h2 .nil
  | _, _, .cons a b r, s, ps, h1, h2 => .cons a b (Fits.snoc r h1 h2)

section
variable {c : Cx} {F : Fm} {A : Around} {g : GH} {Q : Value → GH → Prop} {w w' n k many : Int} {t u : Tok} {x l d lp ls lsh : Addr} {env : Env} {shapes : List (Int × Int)}
theorem pot_lst {g : GH} (P : Pot g lp ls) : ∀ b, b = lp → ∃ vs, g b = some (.lst vs) := fun b q => by
  obtain ⟨⟨a1, a2, a3, a4, a5, a6, _⟩, _⟩ := P
  exact ⟨[.ref ls, .int a1 a3, .int a2 a4], by rw [q]; exact a6⟩
theorem pot_dom {g g' : GH} (L : LeB (fun b => b = lp) g g') (P : Pot g' lp ls) {T : Addr} (n : g' T = none) : g T = none := by
  cases q : g T with
  | none => rfl
  | some ao =>
    have : T ≠ lp := by rintro rfl; exact P.has.1 n
    have := L _ _ this q
    rw [n] at this; cases this
theorem f_parts (W : Facts c) (hA : Room 3 A) (P : Pot g lp ls) (S : PL g lsh shapes) (nsh : lsh ≠ lp) (hlen : shapes.length ≤ 8) (hpos : 0 < shapes.length) (hok : ∀ p ∈ shapes, ShapeOk p)
    (h : ∀ g' lf vs pss, LeB (fun b => b = lp) g g' → Pot g' lp ls → g' lf = some (.lst vs) → PLsAre g g' vs pss → g lf = none → Fits shapes.length shapes pss → Q (.ref lf) g') :
    TW c F A (call (.ref 360) [.ref lp, .ref lsh]) g Q := by
  refine f_callL [("pot", .ref lp), ("shapes", .ref lsh)] W.ok (W.fn 51 360 (by rfl)) hA (by rfl) (by decide +kernel) (by intros; rfl) (by rfl) ?_
  intro L qual cd A' ev he hA'
  walk_at "tws"
  refine ⟨by walk_at "sz", fun lf nlf => ?_⟩
  have ne := P.ne1 nlf
  have P1 : Pot (upd g lf (.lst [])) lp ls := P.upd ne.1 ne.2
  have L1 : LeB (fun b => b = lp) g (upd g lf (.lst [])) := LeB.upd (.inr nlf)
  have e1 : (upd g lf (.lst [])) lf = some (.lst []) := upd_self ..
  have S1 : PL (upd g lf (.lst [])) lsh shapes := S.le (Le.upd nlf)
  have hd1 : ∀ b, g b = none → b ≠ lf → (upd g lf (.lst [])) b = none := fun b q1 q2 => by rw [upd_ne q2]; exact q1
  generalize upd g lf (.lst []) = g1 at *
  walk_at "tws"
  obtain ⟨vsh, esh, rsh⟩ := S1
  have lsh_ := rsh.len
  have nshf : lsh ≠ lf := by rintro rfl; obtain ⟨_, q, _⟩ := S; rw [nlf] at q; cases q
  refine forV_q he (iter_list (Room.handled hA') esh) (fun i ρ g' => ρ "pot" = some (.ref lp) ∧ ρ "shapes" = some (.ref lsh) ∧ ρ "found" = some (.ref lf) ∧ LeB (fun b => b = lp) g g' ∧ Pot g' lp ls ∧ g' lsh = some (.lst vsh) ∧ PairsAre g' vsh shapes ∧
      ∃ vs pss, g' lf = some (.lst vs) ∧ PLsAre g1 g' vs pss ∧ Fits shapes.length (shapes.take i) pss) (fun _ _ _ q => q.2.2.2.2.2.1)
    ⟨by walk_at "rho", by walk_at "rho", by walk_at "rho", L1, P1, esh, rsh, [], [], e1, .nil, .nil⟩ ?_ ?_
  · rintro i v ρ g0 g3 Qb kn kr hi ⟨p1, p2, p3, L3, P3, e3, r3, vs, pss, ef, rf, fit⟩ ⟨hv, rfl⟩
    obtain ⟨T, ka, sa, rfl, hT, hps⟩ := r3.at hv
    obtain ⟨tk, ts, eT⟩ := hT
    have sok := hok (ka, sa) (List.mem_of_getElem? hps)
    have htake : shapes.take (i + 1) = shapes.take i ++ [(ka, sa)] := by rw [List.take_add_one, hps]; rfl
    walk_at "tup"
    walk_at "tws"
    have hsz := sok.2.2.1
    have hsz4 := sok.2.2.2.1
    simp only at hsz hsz4
    have lvs := rf.len
    have lfit : pss.length = i := by rw [fit.len, List.length_take]; have := (List.getElem?_eq_some_iff.mp hps).1; lia
    have nfin : ∀ (g6 : GH) (D : Addr) (ps : List (Int × Int)) (ρ : Rho), ρ "pot" = some (.ref lp) → ρ "shapes" = some (.ref lsh) → ρ "found" = some (.ref lf) → LeB (fun b => b = lp) g g6 → Pot g6 lp ls → g6 lsh = some (.lst vsh) → PairsAre g6 vsh shapes →
        g6 lf = some (.lst vs) → PLsAre g1 g6 vs pss → g1 D = none → PL g6 D ps → (ps.length : Int) = sa → (∀ p ∈ ps, PartOk shapes.length p) →
        ρ "pot" = some (.ref lp) ∧ ρ "shapes" = some (.ref lsh) ∧ ρ "found" = some (.ref lf) ∧ LeB (fun b => b = lp) g (upd g6 lf (.lst (vs ++ [.ref D]))) ∧ Pot (upd g6 lf (.lst (vs ++ [.ref D]))) lp ls ∧ (upd g6 lf (.lst (vs ++ [.ref D]))) lsh = some (.lst vsh) ∧ PairsAre (upd g6 lf (.lst (vs ++ [.ref D]))) vsh shapes ∧
          ∃ vs' pss', (upd g6 lf (.lst (vs ++ [.ref D]))) lf = some (.lst vs') ∧ PLsAre g1 (upd g6 lf (.lst (vs ++ [.ref D]))) vs' pss' ∧ Fits shapes.length (shapes.take (i + 1)) pss' := by
      intro g6 D ps ρ q1 q2 q3 L6 P6 e6 r6 ef6 rf6 nD pl hl hp
      have L7 : LeB (fun b => b = lf) g6 (upd g6 lf (.lst (vs ++ [.ref D]))) := LeB.upd (.inl rfl)
      have hw : ∀ b, b = lf → ∃ vs, g6 b = some (.lst vs) := fun b q => ⟨vs, by rw [q]; exact ef6⟩
      have h0 : ∀ b, b = lf → g1 b ≠ none := fun b q => by rw [q, e1]; simp
      have nDf : D ≠ lf := fun q => h0 D q nD
      refine ⟨q1, q2, q3, L6.updF nlf, P6.upd ne.1 ne.2, by rw [upd_ne nshf]; exact e6, r6.leB L7 hw, _, pss ++ [ps], upd_self .., (rf6.leB L7 hw h0).app (.cons nD (pl.leB L7 hw nDf) .nil), ?_⟩
      rw [htake]
      exact fit.snoc hl hp
    refine ifS (fun q => ?_) (fun q => ?_)
    · walk_at "tws"
      refine x_methL slot_list_append (by rfl) ef ?_
      walk_at "tws"
      refine o_range1 fun rr t1 t2 t3 nr => ?_
      refine comp_q (fun j ys g' => Le g3 g' ∧ ∃ ps, PairsAre g' ys ps ∧ ps.length = j ∧ ∀ p ∈ ps, PartOk shapes.length p) (iter_range (Room.handled hA') (upd_self ..) (by lia) (by lia) (by lia) (by lia)) (by rw [sizeLine_eq]; lia) (fun _ _ _ _ => trivial) (⟨Le.upd nr, [], .nil, rfl, by simp⟩) ?_ ?_
      · rintro j ys v g4 g5 Kb kn hj hys ⟨L4, ps, rp, hl, hp⟩ ⟨⟨tj, rfl⟩, rfl⟩
        intro C hC
        walk_at "tws"
        refine ⟨by walk_at "sz", fun T nT => ?_⟩
        refine kn _ _ ⟨L4.trans (Le.upd nT), ps ++ [(_, _)], (rp.le (Le.upd nT)).app (.cons ⟨_, _, upd_self ..⟩ .nil), by simp [hl], fun p hp' => ?_⟩
        rcases List.mem_append.mp hp' with hp' | hp'
        · exact hp p hp'
        · simp at hp'; subst hp'; exact .inr ⟨rfl, .inr (.inl (by lia))⟩
      · rintro ys g6 D hys ⟨L36, ps, r6p, hps2, hp⟩ nD
        have L6 := L3.trans L36.leB
        have P6 := P3.le L36
        have e6 := L36 _ _ e3
        have r6 := r3.le L36
        have ef6 := L36 _ _ ef
        have rf6 := rf.le L36
        have dom6 : ∀ b, g6 b = none → g1 b = none := fun b q => hd1 b (pot_dom L6 P6 q) (by rintro rfl; rw [q] at ef6; cases ef6)
        have lr := hps2
        have nDf : lf ≠ D := by rintro rfl; rw [nD] at ef6; cases ef6
        have LD : Le g6 (upd g6 D (.lst ys)) := Le.upd nD
        have neD := P6.ne1 nD
        have nD1 : g1 D = none := dom6 D nD
        have PD : PL (upd g6 D (.lst ys)) D ps := ⟨ys, upd_self .., r6p.le LD⟩
        have L7 := L6.trans LD.leB
        have P7 := P6.upd (ao := .lst ys) neD.1 neD.2
        have e7 := LD _ _ e6
        have r7 := r6.le LD
        have ef7 := LD _ _ ef6
        have rf7 := rf6.le LD
        generalize upd g6 D (.lst ys) = g7 at *
        walk_at "tws"
        refine o_append ef7 (by rw [sizeLine_eq]; lia) ?_
        walk_at "tws"
        exact kn _ _ (nfin g7 D ps _ (by walk_at "rho") (by walk_at "rho") (by walk_at "rho") L7 P7 e7 r7 ef7 rf7 nD1 PD (by lia) hp)
    · walk_at "tws"
      refine x_methL slot_list_append (by rfl) ef ?_
      walk_at "tws"
      refine o_range1 fun rr t1 t2 t3 nr => ?_
      have ner := P3.ne1 nr
      have nfr : lf ≠ rr := by rintro rfl; rw [nr] at ef; cases ef
      refine comp_q (fun j ys g' => LeB (fun b => b = lp) g g' ∧ Pot g' lp ls ∧ g' lsh = some (.lst vsh) ∧ PairsAre g' vsh shapes ∧ g' lf = some (.lst vs) ∧ PLsAre g1 g' vs pss ∧ ∃ ps, PairsAre g' ys ps ∧ ps.length = j ∧ ∀ p ∈ ps, PartOk shapes.length p) (iter_range (Room.handled hA') (upd_self ..) (by lia) (by lia) (by lia) (by lia)) (by rw [sizeLine_eq]; lia) (fun _ _ _ _ => trivial) (⟨L3.trans (Le.upd nr).leB, P3.upd ner.1 ner.2, Le.upd nr _ _ e3, r3.le (Le.upd nr), Le.upd nr _ _ ef, rf.le (Le.upd nr), [], .nil, rfl, by simp⟩) ?_ ?_
      · rintro j ys v g4 g5 Kb kn hj hys ⟨L4, P4, e4, r4, ef4, rf4, ps, rp, hl, hp⟩ ⟨⟨tj, rfl⟩, rfl⟩
        intro C hC
        walk_at "tws"
        refine o_len (LIn.of e4) (by lia) fun t => ?_
        walk_at "tws"
        refine f_part W (by walk_at "room") P4 (by lia) fun g6 T pa pb L6 P6 hT nT hpo => ?_
        have hw := pot_lst P4
        have h0 : ∀ b, b = lp → g1 b ≠ none := fun b q => by rw [q]; exact P1.has.1
        refine kn _ _ ⟨L4.trans L6, P6, L6 _ _ nsh e4, r4.leB L6 hw, L6 _ _ ne.1.symm ef4, rf4.leB L6 hw h0, ps ++ [(pa, pb)], (rp.leB L6 hw).app (.cons hT .nil), by simp [hl], fun p hp' => ?_⟩
        rcases List.mem_append.mp hp' with hp' | hp'
        · exact hp p hp'
        · simp at hp'; subst hp'; rw [lsh_] at hpo; exact hpo
      · rintro ys g6 D hys ⟨L6, P6, e6, r6, ef6, rf6, ps, r6p, hps2, hp⟩ nD
        have dom6 : ∀ b, g6 b = none → g1 b = none := fun b q => hd1 b (pot_dom L6 P6 q) (by rintro rfl; rw [q] at ef6; cases ef6)
        have lr := hps2
        have nDf : lf ≠ D := by rintro rfl; rw [nD] at ef6; cases ef6
        have LD : Le g6 (upd g6 D (.lst ys)) := Le.upd nD
        have neD := P6.ne1 nD
        have nD1 : g1 D = none := dom6 D nD
        have PD : PL (upd g6 D (.lst ys)) D ps := ⟨ys, upd_self .., r6p.le LD⟩
        have L7 := L6.trans LD.leB
        have P7 := P6.upd (ao := .lst ys) neD.1 neD.2
        have e7 := LD _ _ e6
        have r7 := r6.le LD
        have ef7 := LD _ _ ef6
        have rf7 := rf6.le LD
        generalize upd g6 D (.lst ys) = g7 at *
        walk_at "tws"
        refine o_append ef7 (by rw [sizeLine_eq]; lia) ?_
        walk_at "tws"
        exact kn _ _ (nfin g7 D ps _ (by walk_at "rho") (by walk_at "rho") (by walk_at "rho") L7 P7 e7 r7 ef7 rf7 nD1 PD (by lia) hp)
  · rintro ρ g3 ⟨p1, p2, p3, L3, P3, e3, r3, vs, pss, ef, rf, fit⟩
    walk_at "tws"
    rw [lsh_, List.take_length] at fit
    exact h _ lf vs pss L3 P3 ef (rf.base fun b q => pot_dom L1 P1 q) nlf fit
end
end
-- part M2
section
set_option maxHeartbeats 1000000
/-! ## What the law builds -/
noncomputable def hdr (s : Int × Int) : Int := (s.2 * 16 + s.1) * 8 + 5
noncomputable def wofs : Int → List (Int × Int) → List Int
  | _, [] => []
  | a, s :: r => (a * 8 + 1) :: wofs (a + 1 + s.2) r
noncomputable def wd (words : List Int) (p : Int × Int) : Int := if p.1 < 0 then p.2 else words.getD p.1.toNat 0
noncomputable def zb (ss : List (Int × Int)) : List (Int × List Int) := ss.map fun s => (hdr s, List.replicate s.2.toNat 0)
noncomputable def fb (words : List Int) : List (Int × Int) → List (List (Int × Int)) → List (Int × List Int)
  | s :: ss, row :: rows => (hdr s, row.map (wd words)) :: fb words ss rows
  | _, _ => []
theorem wofs_len : ∀ (a : Int) (ss : List (Int × Int)), (wofs a ss).length = ss.length
  | a, [] => rfl
  | a, s :: r => by simp [wofs, wofs_len _ r]
theorem zb_app (p q : List (Int × Int)) : zb (p ++ q) = zb p ++ zb q := by simp [zb]
theorem wofs_app : ∀ (a : Int) (p q : List (Int × Int)), (∀ s ∈ p, 0 ≤ s.2) → wofs a (p ++ q) = wofs a p ++ wofs (a + (flat (zb p)).length) q
  | a, [], q, h => by simp [wofs, zb, flat]
  | a, s :: r, q, h => by
    have h0 := h s (by simp)
    have e : (flat (zb (s :: r))).length = 1 + s.2.toNat + (flat (zb r)).length := by
      rw [show zb (s :: r) = (hdr s, List.replicate s.2.toNat 0) :: zb r from rfl, flat_cons_len]; simp
    simp only [List.cons_append, wofs]
    rw [wofs_app _ r q (fun x hx => h x (by simp [hx])), e]
    congr 3
    lia
theorem set_blk (pre : List Int) (h : Int) (f suf : List Int) (j : Nat) (m : Int) (hj : j < f.length) : (pre ++ (h :: f) ++ suf).set (pre.length + 1 + j) m = pre ++ (h :: f.set j m) ++ suf := by
  rw [List.append_assoc, List.set_append_right _ _ (by lia), List.append_assoc]
  congr 1
  rw [show pre.length + 1 + j - pre.length = j + 1 by lia, List.cons_append, List.set_cons_succ, List.set_append_left _ _ hj]
  rfl
/-- the blocks in the midst of being filled -/
noncomputable def mid (words : List Int) (s : Int × Int) (row : List (Int × Int)) (j : Nat) : Int × List Int := (hdr s, (row.take j).map (wd words) ++ List.replicate (row.length - j) 0)
theorem mid_zero (words : List Int) (s : Int × Int) (row : List (Int × Int)) (h : (row.length : Int) = s.2) : mid words s row 0 = (hdr s, List.replicate s.2.toNat 0) := by
  unfold mid
  rw [List.take_zero, List.map_nil, List.nil_append, ← h]
  rfl
theorem mid_full (words : List Int) (s : Int × Int) (row : List (Int × Int)) : mid words s row row.length = (hdr s, row.map (wd words)) := by
  unfold mid
  rw [List.take_length, Nat.sub_self, List.replicate_zero, List.append_nil]
theorem mid_len (words : List Int) (s : Int × Int) (row : List (Int × Int)) (j : Nat) (h : j ≤ row.length) : (mid words s row j).2.length = row.length := by
  unfold mid
  simp only [List.length_append, List.length_map, List.length_take, List.length_replicate]
  lia
theorem mid_set (words : List Int) (s : Int × Int) (row : List (Int × Int)) (j : Nat) (p : Int × Int) (hp : row[j]? = some p) : (mid words s row j).2.set j (wd words p) = (mid words s row (j + 1)).2 := by
  have hj := (List.getElem?_eq_some_iff.mp hp).1
  unfold mid
  simp only
  have e1 : ((row.take j).map (wd words)).length = j := by simp; lia
  rw [List.set_append_right _ _ (by lia), e1, Nat.sub_self]
  rw [show row.length - j = (row.length - (j + 1)) + 1 by lia, List.replicate_succ, List.set_cons_zero, List.take_add_one, hp, List.map_append]
  simp
theorem fb_app (words : List Int) : ∀ (ss : List (Int × Int)) (rows : List (List (Int × Int))) (s : Int × Int) (row : List (Int × Int)), ss.length = rows.length → fb words (ss ++ [s]) (rows ++ [row]) = fb words ss rows ++ [(hdr s, row.map (wd words))]
  | [], [], s, row, _ => rfl
  | a :: ss, b :: rows, s, row, h => by
    show (hdr a, b.map (wd words)) :: fb words (ss ++ [s]) (rows ++ [row]) = _
    rw [fb_app words ss rows s row (by simpa using h)]
    rfl
  | [], _ :: _, _, _, h => by simp at h
  | _ :: _, [], _, _, h => by simp at h
theorem Fits.at {m : Int} : ∀ {ss : List (Int × Int)} {pss : List (List (Int × Int))}, Fits m ss pss → ∀ {i : Nat} {s : Int × Int} {ps : List (Int × Int)}, ss[i]? = some s → pss[i]? = some ps → (ps.length : Int) = s.2 ∧ ∀ p ∈ ps, PartOk m p
  | _, _, .nil, i, s, ps, h, _ => by simp at h
  | _, _, .cons a b r, 0, s, ps, h1, h2 => by simp at h1 h2; subst h1; subst h2; exact ⟨a, b⟩
  | _, _, .cons a b r, i + 1, s, ps, h1, h2 => Fits.at r (by simpa using h1) (by simpa using h2)
/-- lengths of the built blocks' offsets -/
theorem fb_len (words : List Int) {m : Int} : ∀ {ss : List (Int × Int)} {pss : List (List (Int × Int))}, Fits m ss pss → (flat (fb words ss pss)).length = (flat (zb ss)).length
  | _, _, .nil => rfl
  | s :: ss, ps :: pss, .cons a b r => by
    rw [show fb words (s :: ss) (ps :: pss) = (hdr s, ps.map (wd words)) :: fb words ss pss from rfl, show zb (s :: ss) = (hdr s, List.replicate s.2.toNat 0) :: zb ss from rfl, flat_cons_len, flat_cons_len, fb_len words r]
    simp; lia
end
-- part M3
section
set_option maxHeartbeats 1000000
noncomputable def visM : List (Int × Int) → List Int → Option (List Int)
  | [], f => some f
  | p :: r, f => if 0 ≤ p.1 ∧ p.1 ∉ f then (if f.length ≤ 800 then visM r (f ++ [p.1]) else none) else visM r f
noncomputable def layW (pss : List (List (Int × Int))) : Nat → List Int → Nat → Option (List Int)
  | 0, _, _ => none
  | f + 1, found, i => if found.length ≤ 1000 then (match found[i]? with
    | none => some found
    | some a => if 0 ≤ a ∧ a ≤ 800 then (match pss[a.toNat]? with
      | none => none
      | some ps => match visM ps found with
        | none => none
        | some f' => layW pss f f' (i + 1)) else none) else none
noncomputable def layM (fuel : Nat) (pss : List (List (Int × Int))) (rts : List (Int × Int)) : Option (List Int) := match visM rts [] with
  | none => none
  | some f => layW pss fuel f 0
noncomputable def thereM (shapes : List (Int × Int)) : List Int → Int → List (Int × Int) → Option (List (Int × Int))
  | [], _, ps => some ps
  | a :: r, at_, ps => if 0 ≤ a ∧ a ≤ 800 ∧ a ∉ ps.map (·.1) ∧ ps.length ≤ 800 then (match shapes[a.toNat]? with
    | none => none
    | some s => thereM shapes r (at_ + 1 + s.2) (ps ++ [(a, at_ * 8 + 1)])) else none
noncomputable def wordM (there : List (Int × Int)) (p : Int × Int) : Option Int := if p.1 < 0 then some p.2 else there.lookup p.1
noncomputable def wordsM (there : List (Int × Int)) : List (Int × Int) → Option (List Int)
  | [] => some []
  | p :: r => match wordM there p with
    | none => none
    | some w => match wordsM there r with
      | none => none
      | some ws => some (w :: ws)
noncomputable def cellsM (shapes : List (Int × Int)) (pss : List (List (Int × Int))) (there : List (Int × Int)) : List Int → List Int → Option (List Int)
  | [], cells => some cells
  | a :: r, cells => if 0 ≤ a ∧ a ≤ 800 ∧ cells.length ≤ 800 then (match shapes[a.toNat]?, pss[a.toNat]? with
    | some s, some ps => match wordsM there ps with
      | none => none
      | some ws => if ws.length ≤ 800 then cellsM shapes pss there r (cells ++ [hdr s] ++ ws) else none
    | _, _ => none) else none
end
-- part F13
section
set_option maxHeartbeats 1000000
theorem hdr_ok {s : Int × Int} (h : ShapeOk s) : hdr s % 8 = 5 ∧ hdr s / 8 / 16 = s.2 ∧ hdr s / 8 % 16 = s.1 := by
  obtain ⟨h0, h1, h2, h3, _⟩ := h
  unfold hdr
  lia
theorem take_one {α : Type} {l : List α} {i : Nat} {x : α} (h : l[i]? = some x) : l.take (i + 1) = l.take i ++ [x] := by rw [List.take_add_one, h]; rfl
theorem zb_ge {ss : List (Int × Int)} : ss.length ≤ (flat (zb ss)).length := by have := flat_ge (zb ss); simpa [zb] using this
theorem zb_le : ∀ {ss : List (Int × Int)}, (∀ s ∈ ss, ShapeOk s) → (flat (zb ss)).length ≤ 5 * ss.length
  | [], _ => by simp [zb, flat]
  | s :: r, h => by
    have h1 := h s (by simp)
    have h2 := zb_le (ss := r) fun x hx => h x (by simp [hx])
    have := h1.2.2.2.1
    rw [show zb (s :: r) = (hdr s, List.replicate s.2.toNat 0) :: zb r from rfl, flat_cons_len]
    simp only [List.length_replicate, List.length_cons]
    lia
theorem zb_take_le {ss : List (Int × Int)} (h : ∀ s ∈ ss, ShapeOk s) (i : Nat) : (flat (zb (ss.take i))).length ≤ 5 * ss.length := by
  have := zb_le (ss := ss.take i) fun s hs => h s (List.mem_of_mem_take hs)
  rw [List.length_take] at this
  lia
theorem wofs_at {ss : List (Int × Int)} (h : ∀ s ∈ ss, ShapeOk s) {i : Nat} (hi : i < ss.length) : (wofs 0 ss)[i]? = some (((flat (zb (ss.take i))).length : Int) * 8 + 1) := by
  have e : ss = ss.take i ++ ss[i] :: ss.drop (i + 1) := by rw [← List.drop_eq_getElem_cons hi, List.take_append_drop]
  have e2 := congrArg (wofs 0) e
  rw [wofs_app _ _ _ fun s hs => (h s (List.mem_of_mem_take hs)).2.2.1] at e2
  rw [e2, List.getElem?_append_right (by rw [wofs_len, List.length_take]; lia), wofs_len, List.length_take, show i - min i ss.length = 0 by lia]
  simp [wofs]
theorem Fits.take {m : Int} : ∀ {ss : List (Int × Int)} {pss : List (List (Int × Int))}, Fits m ss pss → ∀ i : Nat, Fits m (ss.take i) (pss.take i)
  | _, _, .nil, i => by simpa using Fits.nil
  | _, _, .cons a b r, 0 => .nil
  | _, _, .cons a b r, i + 1 => .cons a b (Fits.take r i)
theorem flat_mid (A : List (Int × List Int)) (b : Int × List Int) (B : List (Int × List Int)) : flat (A ++ b :: B) = flat A ++ (b.1 :: b.2) ++ flat B := by simp [flat]
section
variable {c : Cx} {F : Fm} {A : Around} {g : GH} {Q : Value → GH → Prop} {w w' n k lim : Int} {t u : Tok} {x l d lsh lpa : Addr} {env : Env} {shapes : List (Int × Int)} {pss : List (List (Int × Int))} {vpa : List Value} {g₀ : GH}
theorem f_lheap {m : Int} (W : Facts c) (hA : Room 5 A) (S : PL g lsh shapes) (epa : g lpa = some (.lst vpa)) (rpa : PLsAre g₀ g vpa pss) (hlen : shapes.length ≤ 8) (hok : ∀ p ∈ shapes, ShapeOk p) (fit : Fits m shapes pss) (hm : m = shapes.length)
    (h : ∀ g' T xo lo lw, Le g g' → g' T = some (.tup [.ref xo, .ref lw]) → HO g' xo lo lim → IL g' lo (flat (fb (wofs 0 shapes) shapes pss)) → IL g' lw (wofs 0 shapes) → g xo = none → g lo = none → g lw = none → lo ≠ lw → Q (.ref T) g') :
    TW c F A (call (.ref 365) [.int lim t, .ref lsh, .ref lpa]) g Q := by
  refine f_callL [("limit", .int lim t), ("shapes", .ref lsh), ("parts", .ref lpa)] W.ok (W.fn 52 365 (by rfl)) hA (by rfl) (by decide +kernel) (by intros; rfl) (by rfl) ?_
  intro L qual cd A' ev he hA'
  walk_at "tws"
  refine f_Heap W (by walk_at "room") fun xo lo g1 L1 Ho Io nxo nlo nxl => ?_
  obtain ⟨vsh, esh, rsh⟩ := S
  have lsh_ := rsh.len
  have e1 := L1 _ _ esh
  have r1 := rsh.le L1
  have nsl : lsh ≠ lo := by rintro rfl; rw [nlo] at esh; cases esh
  have lpl : lpa ≠ lo := by rintro rfl; rw [nlo] at epa; cases epa
  have hw1 : ∀ b, b = lo → ∃ vs, g1 b = some (.lst vs) := fun b q => by obtain ⟨v, q2, _⟩ := Io; exact ⟨v, by rw [q]; exact q2⟩
  walk_at "tws"
  refine comp_q (fun i ys g' => LeB (fun b => b = lo) g1 g' ∧ IL g' lo (flat (zb (shapes.take i))) ∧ IntsAre ys (wofs 0 (shapes.take i))) (iter_list (Room.handled hA') e1) (by rw [sizeLine_eq]; lia) (fun i ys g' q => q.1 _ _ nsl e1) (⟨LeB.refl _ _, Io, .nil⟩) ?_ ?_
  · rintro i ys v g0 g3 Kb kn hi hys ⟨L3, I3, rys⟩ ⟨hv, rfl⟩
    have r3 := r1.leB L3 hw1
    have H3 := Ho.leB L3 hw1
    obtain ⟨T, ka, sa, rfl, ⟨tk, ts, eT⟩, hps⟩ := r3.at hv
    have sok := hok (ka, sa) (List.mem_of_getElem? hps)
    have hz := zb_take_le hok i
    have hs0 := sok.2.2.1
    have hs4 := sok.2.2.2.1
    simp only at hs0 hs4
    intro C hC
    walk_at "tup"
    walk_at "tws"
    refine h_meth (ij := (35, 3)) W H3 (by rfl) (by rfl) (by decide +kernel) ?_
    walk_at "tws"
    refine ⟨by walk_at "sz", fun D nD => ?_⟩
    generalize hg4 : upd g3 D _ = g4
    have L4 : Le g3 g4 := by rw [← hg4]; exact Le.upd nD
    obtain ⟨tD, eD⟩ : ∃ t, g4 D = some (.lst [.int 0 t]) := ⟨_, by rw [← hg4]; exact upd_self ..⟩
    clear hg4
    walk_at "tws"
    refine o_mulL eD hs0 (by lia) (by rw [sizeLine_eq]; simp; lia) fun E nE => ?_
    have L5 : Le g3 (upd g4 E (.lst (List.replicate sa.toNat [.int 0 tD]).flatten)) := L4.trans (Le.upd nE)
    have IE : IL (upd g4 E (.lst (List.replicate sa.toNat [.int 0 tD]).flatten)) E (List.replicate sa.toNat 0) := IL.self (ia_rep _ _ _)
    have nE' := L4.fresh nE
    generalize (upd g4 E (.lst (List.replicate sa.toNat [.int 0 tD]).flatten)) = g5 at *
    have nEl : E ≠ lo := (I3.ne nE').symm
    walk_at "tws"
    refine f_alloc W (by walk_at "room") (H3.le L5) (I3.le L5) IE nEl (by lia) (by rw [List.length_replicate]; lia) fun tz g6 L6 I6 => ?_
    have htk := take_one hps
    rw [List.length_replicate, Int.toNat_of_nonneg hs0] at I6
    refine kn _ _ ⟨L3.trans (L5.leB.trans L6), ?_, ?_⟩
    · rw [htk, zb_app, flat_app, show flat (zb [(ka, sa)]) = ((sa * 16 + ka) * 8 + 5) :: List.replicate sa.toNat 0 by simp [flat, zb, hdr]]
      exact I6
    · rw [htk, wofs_app _ _ _ fun s hs => (hok s (List.mem_of_mem_take hs)).2.2.1, show (0 : Int) + ((flat (zb (shapes.take i))).length : Int) = (flat (zb (shapes.take i))).length by lia]
      exact ia_app rys (ia_one _ _)
  · rintro ys g3 lw hys ⟨L3, I3, rys⟩ nlw
    have hti : shapes.take vsh.length = shapes := by rw [lsh_, List.take_length]
    rw [hti] at I3 rys
    have L4 : LeB (fun b => b = lo) g1 (upd g3 lw (.lst ys)) := L3.trans (LeB.upd (.inr nlw))
    have I4 : IL (upd g3 lw (.lst ys)) lo (flat (zb shapes)) := I3.upd (I3.ne nlw)
    have ew : upd g3 lw (.lst ys) lw = some (.lst ys) := upd_self ..
    have nwl : lo ≠ lw := I3.ne nlw
    have nlw' : g lw = none := by
      cases q : g lw with
      | none => rfl
      | some ao => have := L3 _ _ nwl.symm (L1 _ _ q); rw [nlw] at this; cases this
    generalize upd g3 lw (.lst ys) = g4 at *
    clear L3 I3
    have lys := ia_len rys
    rw [wofs_len] at lys
    have lpv := rpa.len
    have lpp := fit.len
    have epa4 : g4 lpa = some (.lst vpa) := L4 _ _ lpl (L1 _ _ epa)
    have L04 : Le g g4 := fun b ao e => L4 _ _ (by rintro rfl; rw [nlo] at e; cases e) (L1 _ _ e)
    have Ho4 := Ho.leB L4 hw1
    have hzb := zb_le hok
    walk_at "tws"
    refine o_zip ew epa4 fun z gz Z => ?_
    -- what the two loops keep
    let K : GH → Rho → Prop := fun g' ρ => ρ "own" = some (.ref xo) ∧ ρ "words" = some (.ref lw) ∧ Le g g' ∧ HO g' xo lo lim ∧ g' lw = some (.lst ys)
    have nlpw : lpa ≠ lw := by rintro rfl; rw [nlw'] at epa; cases epa
    refine forV_q he (iter_zip (Room.handled hA') Z ew epa4 (by lia)) (fun i ρ g' => K g' ρ ∧ IL g' lo (flat (fb (wofs 0 shapes) (shapes.take i) (pss.take i) ++ zb (shapes.drop i)))) (fun _ _ _ q => ⟨q.1.2.2.2.2, q.1.2.2.1 _ _ epa⟩)
      ⟨⟨by walk_at "rho", by walk_at "rho", L04, Ho4, ew⟩, I4⟩ ?_ ?_
    · clear I4 Ho4 L04 epa4
      rintro i v ρ g5 g6 Qb kn kr hi ⟨⟨p1, p2, L5, H5, ew5⟩, I5⟩ ⟨T, vx, vy, nT, rfl, hvx, hvy, rfl⟩
      have L56 : Le g5 (upd g5 T (.tup [vx, vy])) := Le.upd nT
      have eT : upd g5 T (.tup [vx, vy]) T = some (.tup [vx, vy]) := upd_self ..
      have hi' : i < shapes.length := by lia
      have hwi := wofs_at hok hi'
      obtain ⟨tx, hx⟩ := ia_get rys hwi
      rw [hvx] at hx
      cases hx
      obtain ⟨lrow, row, rfl, nrow, prow, hrow⟩ := rpa.at hvy
      obtain ⟨vrow, erow, rrow⟩ := prow
      have hsi : shapes[i]? = some shapes[i] := List.getElem?_eq_getElem hi'
      have sok := hok _ (List.getElem_mem hi')
      have fitr := fit.at hsi hrow
      have hds : shapes.drop i = shapes[i] :: shapes.drop (i + 1) := List.drop_eq_getElem_cons hi'
      generalize shapes[i] = s at *
      have hh := hdr_ok sok
      have hs4 := sok.2.2.2.1
      have lrr := rrow.len
      have L6 := L5.trans L56
      have H6 := H5.le L56
      have ew6 := L56 _ _ ew5
      have I6 := I5.le L56
      generalize upd g5 T _ = g6 at *
      clear I5 H5 L5 L56 ew5
      walk_at "tup"
      walk_at "tws"
      refine o_enum (L6 _ _ erow) fun en ge E => ?_
      refine forV_q he (iter_enum (Room.handled hA') E (L6 _ _ erow)) (fun j ρ g' => K g' ρ ∧ (∃ t, ρ "word" = some (.int (((flat (zb (shapes.take i))).length : Int) * 8 + 1) t)) ∧ IL g' lo (flat (fb (wofs 0 shapes) (shapes.take i) (pss.take i) ++ mid (wofs 0 shapes) s row j :: zb (shapes.drop (i + 1))))) (fun _ _ _ q => q.1.2.2.1 _ _ erow)
        ⟨⟨by walk_at "rho", by walk_at "rho", L6, H6, ew6⟩, ⟨_, by walk_at "rho"⟩, ?_⟩ ?_ ?_
      · rw [mid_zero _ _ _ fitr.1]
        rw [hds] at I6
        exact I6
      · clear I6 H6 L6 ew6
        rintro j v ρ g7 g8 Qb kn kr hj ⟨⟨q1, q2, L7, H7, ew7⟩, ⟨tq, q3⟩, I7⟩ ⟨T2, vx, t2, nT2, rfl, hvx, rfl⟩
        have hj' : j < row.length := by lia
        obtain ⟨Tp, pa, pb, rfl, hTp, hrj⟩ := rrow.at hvx
        have L78 : Le g7 (upd g7 T2 (.tup [.int j t2, .ref Tp])) := Le.upd nT2
        have eT2 : upd g7 T2 (.tup [.int j t2, .ref Tp]) T2 = some (.tup [.int j t2, .ref Tp]) := upd_self ..
        have L8 := L7.trans L78
        have H8 := H7.le L78
        have ew8 := L78 _ _ ew7
        have I8 := I7.le L78
        generalize upd g7 T2 _ = g8 at *
        clear I7 H7 L7 L78 ew7
        obtain ⟨tpa, tpb, eTp⟩ := hTp
        have eTp8 := L8 _ _ eTp
        have pok := fitr.2 (pa, pb) (List.mem_of_getElem? hrj)
        walk_at "tup"
        walk_at "tw"
        walk_at "tw"
        walk_at "tw"
        walk_at "tup"
        walk_at "tws"
        refine h_meth (ij := (35, 10)) W H8 (by rfl) (by rfl) (by decide +kernel) ?_
        walk_at "twi"
        refine TW.mono (Q := fun v g' => (∃ t, v = .int (wd (wofs 0 shapes) (pa, pb)) t) ∧ g8 = g') ?_ ?_
        · walk_at "tws"
          refine ifS (fun q => ?_) (fun q => ?_)
          · walk_at "tws"
            have q' : pa < 0 := by simpa using q
            exact ⟨⟨_, by unfold wd; rw [if_pos q']⟩, rfl⟩
          · walk_at "tws"
            have q' : ¬ pa < 0 := by simpa using q
            have pl : pa < m := by rcases pok with h1 | h1; exact h1.2.1; exact absurd h1.1 (by intro z; simp only at z; lia)
            have hp' : pa.toNat < (wofs 0 shapes).length := by rw [wofs_len]; lia
            obtain ⟨t9, h9⟩ := ia_get rys (List.getElem?_eq_getElem hp')
            refine s_list (LIn.of ew8) (o_getL (LIn.of ew8) (by lia) (by lia) h9 ?_)
            exact ⟨⟨_, by unfold wd; rw [if_neg q', List.getD_eq_getElem?_getD, List.getElem?_eq_getElem hp']; rfl⟩, rfl⟩
        rintro _ _ ⟨⟨tv, rfl⟩, rfl⟩
        walk_at "tws"
        have lml := mid_len (wofs 0 shapes) s row j (by lia)
        have loff : (flat (fb (wofs 0 shapes) (shapes.take i) (pss.take i))).length = (flat (zb (shapes.take i))).length := fb_len _ (fit.take i)
        have hzt := zb_take_le hok i
        have hztt : (flat (zb (shapes.drop (i + 1)))).length ≤ 5 * shapes.length := by
          have := zb_le (ss := shapes.drop (i + 1)) fun s hs => hok s (List.mem_of_mem_drop hs)
          rw [List.length_drop] at this
          lia
        have em := mid_set (wofs 0 shapes) s row j (pa, pb) hrj
        have em1 : (mid (wofs 0 shapes) s row (j + 1)) = (hdr s, (mid (wofs 0 shapes) s row (j + 1)).2) := rfl
        rw [show mid (wofs 0 shapes) s row j = (hdr s, (mid (wofs 0 shapes) s row j).2) from rfl, flat_mid] at I8
        have hwo : (((flat (zb (shapes.take i))).length : Int) * 8 + 1) / 8 = (flat (zb (shapes.take i))).length := by lia
        refine f_setf (n := hdr s) W (by walk_at "room") H8 I8 ?_ (by lia) (by lia) ?_ hh.1 (by lia) (by lia) ?_ fun g9 L9 I9 => ?_
        · simp only [List.length_append, List.length_cons]; lia
        · rw [hwo, Int.toNat_natCast, ← loff]
          simp
        · simp only [List.length_append, List.length_cons]; lia
        · rw [hwo, show (((flat (zb (shapes.take i))).length : Int) + 1 + (j : Int)).toNat = (flat (fb (wofs 0 shapes) (shapes.take i) (pss.take i))).length + 1 + j by lia, set_blk _ _ _ _ _ _ (by show j < (mid (wofs 0 shapes) s row j).2.length; lia), em] at I9
          walk_at "tws"
          have hw8 : ∀ b, b = lo → ∃ vs, g8 b = some (.lst vs) := fun b q => by obtain ⟨v, q2, _⟩ := I8; exact ⟨v, by rw [q]; exact q2⟩
          refine kn _ _ ⟨⟨by walk_at "rho", by walk_at "rho", fun b ao e => L9 _ _ (by rintro rfl; rw [nlo] at e; cases e) (L8 _ _ e), H8.leB L9 hw8, L9 _ _ nwl.symm ew8⟩, ⟨_, by walk_at "rho"⟩, ?_⟩
          rw [em1, flat_mid]
          exact I9
      · clear I6 H6 L6 ew6
        rintro ρ g7 ⟨⟨q1, q2, L7, H7, ew7⟩, ⟨tq, q3⟩, I7⟩
        walk_at "tws"
        refine kn _ _ ⟨⟨q1, q2, L7, H7, ew7⟩, ?_⟩
        rw [lrr, mid_full] at I7
        rw [take_one hsi, take_one hrow, fb_app _ _ _ _ _ (by rw [List.length_take, List.length_take]; lia), List.append_assoc]
        exact I7
    · rintro ρ g5 ⟨⟨p1, p2, L5, H5, ew5⟩, I5⟩
      rw [show ys.length = shapes.length from lys, List.take_length, List.drop_length, ← lpp, List.take_length, show zb [] = [] from rfl, List.append_nil] at I5
      walk_at "tws"
      refine ⟨by walk_at "sz", fun T nT => ?_⟩
      walk_at "tws"
      exact h _ T xo lo lw (L5.trans (Le.upd nT)) (upd_self ..) (H5.updN nT) (I5.upd (I5.ne nT)) ⟨ys, Le.upd nT _ _ ew5, rys⟩ nxo nlo nlw' nwl
end
end
-- part F14
section
set_option maxHeartbeats 1000000
theorem PairsAre.get {g : GH} : ∀ {vs : List Value} {ps : List (Int × Int)}, PairsAre g vs ps → ∀ {i : Nat} {p : Int × Int}, ps[i]? = some p → ∃ T, vs[i]? = some (.ref T) ∧ TupI g T p.1 p.2
  | _, _, .nil, i, v, h => by simp at h
  | _, _, .cons x r, 0, v, h => by simp at h; subst h; exact ⟨_, rfl, x⟩
  | _, _, .cons x r, i + 1, v, h => by simpa using PairsAre.get r (by simpa using h)
theorem any_mem_ints (ns : List Int) (a : Int) : ns.any (· == a) = decide (a ∈ ns) := by
  induction ns with
  | nil => rfl
  | cons n r ih =>
    rw [List.any_cons, ih]
    by_cases q : n = a
    · simp [q]
    · have q' : ¬ a = n := fun e => q e.symm
      simp [q, q']
section
variable {c : Cx} {F : Fm} {A : Around} {g : GH} {Q : Value → GH → Prop} {w w' n k lim : Int} {t u : Tok} {x l d lsh lpa lr lord : Addr} {env : Env} {shapes rts : List (Int × Int)} {pss : List (List (Int × Int))} {vpa : List Value} {g₀ : GH} {order : List Int}
theorem IL.notIn {ns : List Int} {a : Int} (hd : IL g d ns) (h : Q (.bool (!decide (a ∈ ns))) g) : TW c F A (compareOp .NotIn (.int a t) (.ref d)) g Q := by
  obtain ⟨vs, e, r⟩ := hd
  exact o_notInL e r (by rw [any_mem_ints]; exact h)
theorem f_layers {fuel : Nat} (W : Facts c) (hA : Room 1 A) (epa : g lpa = some (.lst vpa)) (rpa : PLsAre g₀ g vpa pss) (hr : PL g lr rts) (hm : layM fuel pss rts = some order)
    (h : ∀ g' lf, Le g g' → IL g' lf order → g lf = none → Q (.ref lf) g') : TW c F A (call (.ref 372) [.ref lpa, .ref lr]) g Q := by
  refine f_callL [("parts", .ref lpa), ("roots", .ref lr)] W.ok (W.fn 53 372 (by rfl)) hA (by rfl) (by decide +kernel) (by intros; rfl) (by rfl) ?_
  intro L qual cd A' ev he hA'
  unfold layM at hm
  split at hm
  · cases hm
  rename_i f1 hv1
  walk_at "tws"
  refine ⟨by walk_at "sz", fun lf nlf => ?_⟩
  have L1 : Le g (upd g lf (.lst [])) := Le.upd nlf
  have I1 : IL (upd g lf (.lst [])) lf [] := IL.self .nil
  generalize upd g lf (.lst []) = g1 at *
  obtain ⟨vr, er, rr⟩ := hr
  have lrr := rr.len
  walk_at "tws"
  refine forV_q he (iter_list (Room.handled hA') (L1 _ _ er)) (fun i ρ g' => ρ "parts" = some (.ref lpa) ∧ ρ "found" = some (.ref lf) ∧ Le g g' ∧ ∃ f, IL g' lf f ∧ visM (rts.drop i) f = some f1) (fun _ _ _ q => q.2.2.1 _ _ er)
    ⟨by walk_at "rho", by walk_at "rho", L1, [], I1, hv1⟩ ?_ ?_
  · clear I1 L1 hv1
    rintro i v ρ g0 g3 Qb kn kr hi ⟨p1, p2, L3, f, I3, hv⟩ ⟨hvi, rfl⟩
    have hi' : i < rts.length := by lia
    obtain ⟨T, pa, pb, rfl, hT, hps⟩ := rr.at hvi
    rw [List.drop_eq_getElem_cons hi'] at hv
    have : rts[i] = (pa, pb) := by rw [List.getElem?_eq_getElem hi'] at hps; exact Option.some.inj hps
    rw [this] at hv
    obtain ⟨ta, tb, eT⟩ := hT
    have eT3 := L3 _ _ eT
    unfold visM at hv
    walk_at "tup"
    walk_at "twt"
    refine TW.mono (Q := fun z g' => z = decide (0 ≤ pa ∧ pa ∉ f) ∧ g3 = g') ?_ ?_
    · walk_at "tws"
      refine ifS (fun q => ?_) (fun q => ⟨by simp at q; simp; lia, rfl⟩)
      walk_at "tws"
      refine I3.notIn ?_
      walk_at "tws"
      simp at q
      refine ifS (fun q2 => ?_) (fun q2 => ⟨by simp at q2; simp [q, q2], rfl⟩)
      walk_at "tws"
      exact ⟨by simp at q2; simp [q, q2], rfl⟩
    rintro _ _ ⟨rfl, rfl⟩
    split at hv
    · rename_i htest
      split at hv
      case isFalse => cases hv
      rename_i hsz
      refine ifT (by simpa using htest) ?_
      obtain ⟨vf, ef, rf⟩ := I3
      have lvf := ia_len rf
      walk_at "tws"
      refine x_methL slot_list_append (by rfl) ef ?_
      walk_at "tws"
      refine o_append ef (by rw [sizeLine_eq]; lia) ?_
      walk_at "tws"
      exact kn _ _ ⟨by walk_at "rho", by walk_at "rho", L3.updF nlf, _, IL.self (ia_app rf (ia_one _ _)), hv⟩
    · rename_i htest
      refine ifF (by simpa using htest) ?_
      walk_at "tws"
      exact kn _ _ ⟨by walk_at "rho", by walk_at "rho", L3, _, I3, hv⟩
  · clear I1 L1 hv1
    rintro ρ g3 ⟨p1, p2, L3, f, I3, hv⟩
    rw [List.drop_eq_nil_of_le (by lia)] at hv
    unfold visM at hv
    cases hv
    walk_at "tws"
    refine while_q he (fun n ρ g' => ρ "parts" = some (.ref lpa) ∧ ρ "found" = some (.ref lf) ∧ Le g g' ∧ ∃ (f : List Int) (i : Nat), IL g' lf f ∧ (∃ t, ρ "at" = some (.int i t)) ∧ layW pss n f i = some order) ?_ fuel
      ⟨by walk_at "rho", by walk_at "rho", L3, _, 0, I3, ⟨_, by walk_at "rho"⟩, hm⟩
    clear I3 L3 hm p1 p2
    rintro n ρ g4 Qb kn kr ⟨p1, p2, L4, f, i, I4, ⟨ti, p3⟩, hm⟩
    cases n with
    | zero => cases hm
    | succ n =>
    unfold layW at hm
    split at hm
    case isFalse => cases hm
    rename_i hz
    have I4' := I4
    obtain ⟨vf, ef, rf⟩ := I4'
    have lvf := ia_len rf
    walk_at "tws"
    refine o_len (LIn.of ef) (by lia) fun t => ?_
    rw [lvf]
    walk_at "tws"
    split at hm
    · rename_i hnone
      have hge := List.getElem?_eq_none_iff.mp hnone
      cases hm
      walk_at "no"
      walk_at "tws"
      exact h _ lf L4 I4 nlf
    · rename_i a hsome
      have hlt := (List.getElem?_eq_some_iff.mp hsome).1
      split at hm
      case isFalse => cases hm
      rename_i hb
      split at hm
      · cases hm
      rename_i ps hps
      split at hm
      · cases hm
      rename_i f' hvis
      obtain ⟨ta, ea⟩ := ia_get rf hsome
      obtain ⟨lrow, erow, nrow, prow⟩ := rpa.get hps
      obtain ⟨vrow, ervow, rrow⟩ := prow
      have lrow_ := rrow.len
      walk_at "yes"
      walk_at "tws"
      refine s_list (LIn.of ef) (o_getL (LIn.of ef) (by lia) (by lia) (by simpa using ea) ?_)
      refine s_list (LIn.of (L4 _ _ epa)) (o_getL (LIn.of (L4 _ _ epa)) (by lia) (by lia) erow ?_)
      refine forV_q he (iter_list (Room.handled hA') (L4 _ _ ervow)) (fun j ρ g' => ρ "parts" = some (.ref lpa) ∧ ρ "found" = some (.ref lf) ∧ (∃ t, ρ "at" = some (.int (i : Nat) t)) ∧ Le g g' ∧ ∃ f, IL g' lf f ∧ visM (ps.drop j) f = some f') (fun _ _ _ q => q.2.2.2.1 _ _ ervow)
        ⟨by walk_at "rho", by walk_at "rho", ⟨_, by walk_at "rho"⟩, L4, f, I4, hvis⟩ ?_ ?_
      · clear I4 L4 hvis p1 p2 p3 ef rf hz hsome hlt ea lvf
        rintro j v ρ g0 g3 Qb kn kr hj ⟨p1, p2, ⟨tj, p3⟩, L3, f, I3, hv⟩ ⟨hvi, rfl⟩
        have hj' : j < ps.length := by lia
        obtain ⟨T, pa, pb, rfl, hT, hps⟩ := rrow.at hvi
        rw [List.drop_eq_getElem_cons hj'] at hv
        have : ps[j] = (pa, pb) := by rw [List.getElem?_eq_getElem hj'] at hps; exact Option.some.inj hps
        rw [this] at hv
        obtain ⟨ta, tb, eT⟩ := hT
        have eT3 := L3 _ _ eT
        unfold visM at hv
        walk_at "tup"
        walk_at "twt"
        refine TW.mono (Q := fun z g' => z = decide (0 ≤ pa ∧ pa ∉ f) ∧ g3 = g') ?_ ?_
        · walk_at "tws"
          refine ifS (fun q => ?_) (fun q => ⟨by simp at q; simp; lia, rfl⟩)
          walk_at "tws"
          refine I3.notIn ?_
          walk_at "tws"
          simp at q
          refine ifS (fun q2 => ?_) (fun q2 => ⟨by simp at q2; simp [q, q2], rfl⟩)
          walk_at "tws"
          exact ⟨by simp at q2; simp [q, q2], rfl⟩
        rintro _ _ ⟨rfl, rfl⟩
        split at hv
        · rename_i htest
          split at hv
          case isFalse => cases hv
          rename_i hsz
          refine ifT (by simpa using htest) ?_
          obtain ⟨vf, ef, rf⟩ := I3
          have lvf := ia_len rf
          walk_at "tws"
          refine x_methL slot_list_append (by rfl) ef ?_
          walk_at "tws"
          refine o_append ef (by rw [sizeLine_eq]; lia) ?_
          walk_at "tws"
          exact kn _ _ ⟨by walk_at "rho", by walk_at "rho", ⟨_, by walk_at "rho"⟩, L3.updF nlf, _, IL.self (ia_app rf (ia_one _ _)), hv⟩
        · rename_i htest
          refine ifF (by simpa using htest) ?_
          walk_at "tws"
          exact kn _ _ ⟨by walk_at "rho", by walk_at "rho", ⟨_, by walk_at "rho"⟩, L3, _, I3, hv⟩
      · rintro ρ g3 ⟨p1, p2, ⟨tj, p3⟩, L3, f, I3, hv⟩
        rw [List.drop_eq_nil_of_le (by lia)] at hv
        unfold visM at hv
        cases hv
        walk_at "tws"
        exact kn n _ _ (by lia) ⟨by walk_at "rho", by walk_at "rho", L3, _, i + 1, I3, atT (setv_same _ _ _) (by lia), hm⟩
end
end
-- part F15
section
set_option maxHeartbeats 1000000
theorem wordsM_len {there : List (Int × Int)} : ∀ {ps : List (Int × Int)} {ws : List Int}, wordsM there ps = some ws → ws.length = ps.length
  | [], ws, h => by unfold wordsM at h; cases h; rfl
  | p :: r, ws, h => by
    unfold wordsM at h
    split at h
    · cases h
    split at h
    · cases h
    rename_i ws' hw
    cases h
    simp [wordsM_len hw]
section
variable {c : Cx} {F : Fm} {A : Around} {g : GH} {Q : Value → GH → Prop} {w w' n k lim : Int} {t u : Tok} {x l d lsh lpa lr lord : Addr} {env : Env} {shapes rts : List (Int × Int)} {pss : List (List (Int × Int))} {vpa : List Value} {g₀ : GH} {order : List Int}
theorem f_lcells {there : List (Int × Int)} {cells ws : List Int} (W : Facts c) (hA : Room 2 A) (S : PL g lsh shapes) (epa : g lpa = some (.lst vpa)) (rpa : PLsAre g₀ g vpa pss) (hr : PL g lr rts) (ho : IL g lord order) (hrz : rts.length ≤ 800)
    (m1 : thereM shapes order 0 [] = some there) (m2 : cellsM shapes pss there order [] = some cells) (m3 : wordsM there rts = some ws)
    (h : ∀ g' T lc lw, Le g g' → g' T = some (.tup [.ref lc, .ref lw]) → IL g' lc cells → IL g' lw ws → g lc = none → g lw = none → Q (.ref T) g') :
    TW c F A (call (.ref 377) [.ref lsh, .ref lpa, .ref lr, .ref lord]) g Q := by
  refine f_callL [("shapes", .ref lsh), ("parts", .ref lpa), ("roots", .ref lr), ("order", .ref lord)] W.ok (W.fn 54 377 (by rfl)) hA (by rfl) (by decide +kernel) (by intros; rfl) (by rfl) ?_
  intro L qual cd A' ev he hA'
  obtain ⟨vsh, esh, rsh⟩ := S
  obtain ⟨vr, er, rr⟩ := hr
  obtain ⟨vo, eo, ro⟩ := ho
  have lrr := rr.len
  have lro := ia_len ro
  walk_at "tws"
  intro d ep nd
  have L1 : Le g (upd g d (.dic [] ep)) := Le.upd nd
  have K1 : KV (upd g d (.dic [] ep)) d [] := ⟨_, _, upd_self .., .nil⟩
  generalize upd g d (.dic [] ep) = g1 at *
  walk_at "tws"
  refine ⟨by walk_at "sz", fun T0 nT0 => ?_⟩
  generalize hg2 : upd g1 T0 _ = g2
  have L12 : Le g1 g2 := by rw [← hg2]; exact Le.upd nT0
  obtain ⟨t0, eT0⟩ : ∃ t, g2 T0 = some (.tup [.ref d, .int 0 t]) := ⟨_, by rw [← hg2]; exact upd_self ..⟩
  clear hg2
  have L2 := L1.trans L12
  have K2 := K1.le L12
  walk_at "tup"
  clear K1 L1 L12
  walk_at "tws"
  refine forV_q he (iter_list (Room.handled hA') (L2 _ _ eo)) (fun i ρ g' => ρ "shapes" = some (.ref lsh) ∧ ρ "parts" = some (.ref lpa) ∧ ρ "roots" = some (.ref lr) ∧ ρ "order" = some (.ref lord) ∧ ρ "there" = some (.ref d) ∧ Le g g' ∧
      ∃ at_ ps, (∃ t, ρ "at" = some (.int at_ t)) ∧ KV g' d ps ∧ thereM shapes (order.drop i) at_ ps = some there) (fun _ _ _ q => q.2.2.2.2.2.1 _ _ eo)
    ⟨by walk_at "rho", by walk_at "rho", by walk_at "rho", by walk_at "rho", by walk_at "rho", L2, 0, [], ⟨_, by walk_at "rho"⟩, K2, m1⟩ ?_ ?_
  · clear K2 L2 m1
    rintro i v ρ g0 g3 Qb kn kr hi ⟨p1, p2, p3, p4, p5, L3, at_, ps, ⟨ta, p6⟩, K3, hm⟩ ⟨hvi, rfl⟩
    have hi' : i < order.length := by lia
    obtain ⟨tv, hv'⟩ := ia_get ro (List.getElem?_eq_getElem hi')
    rw [hvi] at hv'
    cases hv'
    rw [List.drop_eq_getElem_cons hi'] at hm
    generalize order[i] = a at *
    unfold thereM at hm
    split at hm
    case isFalse => cases hm
    rename_i hb
    split at hm
    · cases hm
    rename_i s hs
    obtain ⟨Ts, eTs, ⟨tk, tz, eT⟩⟩ := rsh.get hs
    walk_at "tws"
    refine K3.set hb.2.2.1 (by lia) fun ao K4 => ?_
    have L4 : Le g (upd g3 d ao) := L3.updF nd
    generalize upd g3 d ao = g4 at *
    clear K3 L3
    walk_at "tws"
    refine s_list (LIn.of (L4 _ _ esh)) (o_getL (LIn.of (L4 _ _ esh)) (by lia) (by lia) eTs ?_)
    walk_at "tws"
    refine s_tup (L4 _ _ eT) (o_getT (L4 _ _ eT) (by lia) (by lia) (by rfl) ?_)
    walk_at "tws"
    exact kn _ _ ⟨by walk_at "rho", by walk_at "rho", by walk_at "rho", by walk_at "rho", by walk_at "rho", L4, _, _, ⟨_, by walk_at "rho"⟩, K4, hm⟩
  · clear K2 L2 m1
    rintro ρ g3 ⟨p1, p2, p3, p4, p5, L3, at_, ps, ⟨ta, p6⟩, K3, hm⟩
    rw [List.drop_eq_nil_of_le (by lia)] at hm
    unfold thereM at hm
    cases hm
    walk_at "tws"
    refine ⟨by walk_at "sz", fun lc nlc => ?_⟩
    have L4 : Le g (upd g3 lc (.lst [])) := L3.trans (Le.upd nlc)
    have K4 : KV (upd g3 lc (.lst [])) d there := K3.le (Le.upd nlc)
    have I4 : IL (upd g3 lc (.lst [])) lc [] := IL.self .nil
    have nlc' := L3.fresh nlc
    generalize upd g3 lc (.lst []) = g4 at *
    clear K3 L3
    walk_at "tws"
    refine forV_q he (iter_list (Room.handled hA') (L4 _ _ eo)) (fun i ρ g' => ρ "shapes" = some (.ref lsh) ∧ ρ "parts" = some (.ref lpa) ∧ ρ "roots" = some (.ref lr) ∧ ρ "order" = some (.ref lord) ∧ ρ "there" = some (.ref d) ∧ Le g g' ∧
      KV g' d there ∧ ∃ lc cs, ρ "cells" = some (.ref lc) ∧ IL g' lc cs ∧ g lc = none ∧ cellsM shapes pss there (order.drop i) cs = some cells) (fun _ _ _ q => q.2.2.2.2.2.1 _ _ eo)
      ⟨by walk_at "rho", by walk_at "rho", by walk_at "rho", by walk_at "rho", by walk_at "rho", L4, K4, lc, [], by walk_at "rho", I4, nlc', m2⟩ ?_ ?_
    · clear I4 K4 L4 m2 nlc nlc' p1 p2 p3 p4 p5
      rintro i v ρ g0 g3 Qb kn kr hi ⟨p1, p2, p3, p4, p5, L3, K3, lc, cs, p6, I3, nlc, hm⟩ ⟨hvi, rfl⟩
      have hi' : i < order.length := by lia
      obtain ⟨tv, hv'⟩ := ia_get ro (List.getElem?_eq_getElem hi')
      rw [hvi] at hv'
      cases hv'
      rw [List.drop_eq_getElem_cons hi'] at hm
      generalize order[i] = a at *
      unfold cellsM at hm
      split at hm
      case isFalse => cases hm
      rename_i hb
      split at hm
      case h_2 => cases hm
      rename_i s ps hs hpps
      split at hm
      · cases hm
      rename_i wrow hwr
      split at hm
      case isFalse => cases hm
      rename_i hbw
      obtain ⟨Ts, eTs, ⟨tk, tz, eT⟩⟩ := rsh.get hs
      obtain ⟨lrow, erow, nrow, prow⟩ := rpa.get hpps
      obtain ⟨vrow, ervow, rrow⟩ := prow
      have lrow_ := rrow.len
      obtain ⟨vc, ec, rc⟩ := I3
      have lvc := ia_len rc
      walk_at "tws"
      refine x_methL slot_list_append (by rfl) ec ?_
      walk_at "tws"
      refine s_list (LIn.of (L3 _ _ esh)) (o_getL (LIn.of (L3 _ _ esh)) (by lia) (by lia) eTs ?_)
      walk_at "tws"
      refine s_tup (L3 _ _ eT) (o_getT (L3 _ _ eT) (by lia) (by lia) (by rfl) ?_)
      walk_at "tws"
      refine s_list (LIn.of (L3 _ _ esh)) (o_getL (LIn.of (L3 _ _ esh)) (by lia) (by lia) eTs ?_)
      walk_at "tws"
      refine s_tup (L3 _ _ eT) (o_getT (L3 _ _ eT) (by lia) (by lia) (by rfl) ?_)
      walk_at "tws"
      refine o_append ec (by rw [sizeLine_eq]; lia) ?_
      generalize hg4 : upd g3 lc _ = g4
      have L4 : Le g g4 := by rw [← hg4]; exact L3.updF nlc
      have K4 : KV g4 d there := by rw [← hg4]; exact K3.upd (K3.neL ⟨vc, ec, rc⟩)
      have I4 : IL g4 lc (cs ++ [hdr s]) := by rw [← hg4]; exact IL.self (ia_app rc (ia_one _ _))
      clear hg4 K3 L3 ec rc lvc
      obtain ⟨vc, ec, rc⟩ := I4
      have lvc := ia_len rc
      simp only [List.length_append, List.length_cons, List.length_nil] at lvc
      have hwl := wordsM_len hwr
      walk_at "tws"
      refine s_list (LIn.of (L4 _ _ epa)) (o_getL (LIn.of (L4 _ _ epa)) (by lia) (by lia) erow ?_)
      refine comp_q (fun j ys g' => Le g4 g' ∧ ∃ rs rest, IntsAre ys rs ∧ wordsM there (ps.drop j) = some rest ∧ rs ++ rest = wrow) (iter_list (Room.handled hA') (L4 _ _ ervow)) (by rw [sizeLine_eq]; lia) (fun _ _ _ q => q.1 _ _ (L4 _ _ ervow)) (⟨Le.refl _, [], wrow, .nil, hwr, rfl⟩) ?_ ?_
      · rintro j ys v gA gB Kb kn hj hys ⟨LB, rs, rest, hrs, hmw, hcat⟩ ⟨hvj, rfl⟩
        have hj' : j < ps.length := by lia
        rw [List.drop_eq_getElem_cons hj'] at hmw
        obtain ⟨T, pa, pb, rfl, ⟨t1, t2, eT⟩, hps⟩ := rrow.at hvj
        have : ps[j] = (pa, pb) := by rw [List.getElem?_eq_getElem hj'] at hps; exact Option.some.inj hps
        rw [this] at hmw
        unfold wordsM at hmw
        split at hmw
        · cases hmw
        rename_i w' hone
        split at hmw
        · cases hmw
        rename_i r'' hrest
        cases hmw
        have eTB := L4.trans LB _ _ eT
        have KB := K4.le LB
        unfold wordM at hone
        intro C hC
        walk_at "tup"
        walk_at "tws"
        refine ifS (fun q => ?_) (fun q => ?_)
        · have q' : pa < 0 := by simpa using q
          rw [if_pos q'] at hone
          cases hone
          walk_at "tws"
          exact kn _ _ ⟨LB, rs ++ [pb], r'', ia_app hrs (ia_one _ _), hrest, by rw [List.append_assoc]; exact hcat⟩
        · have q' : ¬ pa < 0 := by simpa using q
          rw [if_neg q'] at hone
          walk_at "tws"
          refine KB.get hone fun t => ?_
          exact kn _ _ ⟨LB, rs ++ [w'], r'', ia_app hrs (ia_one _ _), hrest, by rw [List.append_assoc]; exact hcat⟩
      · rintro ys g5 D hys ⟨L45, rs, rest, hrs, hmw, hcat⟩ nD
        rw [List.drop_eq_nil_of_le (by lia)] at hmw
        unfold wordsM at hmw
        cases hmw
        rw [List.append_nil] at hcat
        subst hcat
        have lrs := ia_len hrs
        have L46 : Le g4 (upd g5 D (.lst ys)) := L45.trans (Le.upd nD)
        have eD : upd g5 D (.lst ys) D = some (.lst ys) := upd_self ..
        generalize upd g5 D (.lst ys) = g6 at *
        refine o_addL (L46 _ _ ec) eD (by rw [sizeLine_eq]; lia) fun E nE => ?_
        have L47 : Le g4 (upd g6 E (.lst (vc ++ ys))) := L46.trans (Le.upd nE)
        walk_at "tws"
        exact kn _ _ ⟨by walk_at "rho", by walk_at "rho", by walk_at "rho", by walk_at "rho", by walk_at "rho", L4.trans L47, K4.le L47, E, _, by walk_at "rho", IL.self (ia_app rc hrs), (L4.trans L46).fresh nE, hm⟩
    · clear I4 K4 L4 m2 nlc nlc' p1 p2 p3 p4 p5
      rintro ρ g3 ⟨p1, p2, p3, p4, p5, L3, K3, lc, cs, p6, I3, nlc, hm⟩
      rw [List.drop_eq_nil_of_le (by lia)] at hm
      unfold cellsM at hm
      cases hm
      walk_at "tws"
      refine comp_q (fun j ys g' => Le g3 g' ∧ ∃ rs rest, IntsAre ys rs ∧ wordsM there (rts.drop j) = some rest ∧ rs ++ rest = ws) (iter_list (Room.handled hA') (L3 _ _ er)) (by rw [sizeLine_eq]; lia) (fun _ _ _ q => q.1 _ _ (L3 _ _ er)) (⟨Le.refl _, [], ws, .nil, m3, rfl⟩) ?_ ?_
      · rintro j ys v gA gB Kb kn hj hys ⟨LB, rs, rest, hrs, hmw, hcat⟩ ⟨hvj, rfl⟩
        have hj' : j < rts.length := by lia
        rw [List.drop_eq_getElem_cons hj'] at hmw
        obtain ⟨T, pa, pb, rfl, ⟨t1, t2, eT⟩, hps⟩ := rr.at hvj
        have : rts[j] = (pa, pb) := by rw [List.getElem?_eq_getElem hj'] at hps; exact Option.some.inj hps
        rw [this] at hmw
        unfold wordsM at hmw
        split at hmw
        · cases hmw
        rename_i w' hone
        split at hmw
        · cases hmw
        rename_i r'' hrest
        cases hmw
        have eTB := L3.trans LB _ _ eT
        have KB := K3.le LB
        unfold wordM at hone
        intro C hC
        walk_at "tup"
        walk_at "tws"
        refine ifS (fun q => ?_) (fun q => ?_)
        · have q' : pa < 0 := by simpa using q
          rw [if_pos q'] at hone
          cases hone
          walk_at "tws"
          exact kn _ _ ⟨LB, rs ++ [pb], r'', ia_app hrs (ia_one _ _), hrest, by rw [List.append_assoc]; exact hcat⟩
        · have q' : ¬ pa < 0 := by simpa using q
          rw [if_neg q'] at hone
          walk_at "tws"
          refine KB.get hone fun t => ?_
          exact kn _ _ ⟨LB, rs ++ [w'], r'', ia_app hrs (ia_one _ _), hrest, by rw [List.append_assoc]; exact hcat⟩
      · rintro ys g5 D hys ⟨L35, rs, rest, hrs, hmw, hcat⟩ nD
        rw [List.drop_eq_nil_of_le (by lia)] at hmw
        unfold wordsM at hmw
        cases hmw
        rw [List.append_nil] at hcat
        subst hcat
        have L36 : Le g3 (upd g5 D (.lst ys)) := L35.trans (Le.upd nD)
        have nD' := (L3.trans L35).fresh nD
        have ID : IL (upd g5 D (.lst ys)) D rs := IL.self hrs
        generalize upd g5 D (.lst ys) = g6 at *
        walk_at "tws"
        refine ⟨by walk_at "sz", fun T nT => ?_⟩
        have LT : Le g6 (upd g6 T (.tup [.ref lc, .ref D])) := Le.upd nT
        walk_at "tws"
        exact h _ T lc D ((L3.trans L36).trans LT) (upd_self ..) ((I3.le L36).le LT) (ID.le LT) nlc nD'
end
end
-- part F16
section
set_option maxHeartbeats 1000000
theorem canAll_ints : ∀ ns : List Int, PyData.canLayAll0 (ns.map .int) = true
  | [] => rfl
  | _ :: r => by simp [PyData.canLayAll0, PyData.canLay0, canAll_ints r]
theorem depthAll_ints : ∀ ns : List Int, PyData.depthAll (ns.map .int) = 0
  | [] => rfl
  | _ :: r => by simp [PyData.depthAll, PyData.depth, depthAll_ints r]
theorem shaped_ints (a : List Int) : PySem.SeqAt.shaped (.list (a.map .int)) = true := by
  simp [PySem.SeqAt.shaped, PyData.canLay0, PyData.depth, canAll_ints, depthAll_ints]
theorem shaped_two (a b : List Int) : PySem.SeqAt.shaped (.tuple [.list (a.map .int), .list (b.map .int)]) = true := by
  simp [PySem.SeqAt.shaped, PyData.canLay0, PyData.canLayAll0, PyData.depth, PyData.depthAll, canAll_ints, depthAll_ints]
theorem eqv_same (d : PyData) (h : PySem.SeqAt.shaped d = true) : PyData.eqv d d = true := PySem.SeqAt.eqv_refl d (PySem.SeqAt.canLay_of_shaped h)
section
variable {c : Cx} {F : Fm} {A : Around} {g : GH} {Q : Value → GH → Prop} {lim : Int} {P U xn ln D lc lw : Addr} {bs : List (Int × List Int)} {ws : List Int} {env : Env}
theorem f_is (W : Facts c) (hA : Room 5 A) (eP : g P = some (.tup [.ref xn, .ref D])) (H : HO g xn ln lim) (hl : IL g ln (flat bs)) (hD : IL g D ws) (eU : g U = some (.tup [.ref lc, .ref lw])) (hc : IL g lc (flat bs)) (hw : IL g lw ws)
    (hz : (flat bs).length ≤ 1000) (hwz : ws.length ≤ 1000) (ok : ∀ b ∈ bs, BlkOk (offs 0 bs) b) (h : ∀ g', Le g g' → Q (.bool true) g') : TW c F A (call (.ref 384) [.ref P, .ref U]) g Q := by
  refine f_callL [("pair", .ref P), ("due", .ref U)] W.ok (W.fn 55 384 (by rfl)) hA (by rfl) (by decide +kernel) (by intros; rfl) (by rfl) ?_
  intro L qual cd A' ev he hA'
  obtain ⟨vl, el, rl⟩ := hl
  obtain ⟨vd, ed, rd⟩ := hD
  obtain ⟨vc, ec, rc⟩ := hc
  obtain ⟨vw, ew, rw_⟩ := hw
  have l1 := ia_len rl
  have l2 := ia_len rd
  walk_at "tws"
  refine s_tup eP (o_getT eP (by lia) (by lia) (by rfl) ?_)
  walk_at "tws"
  refine h_cells W H ?_
  walk_at "tws"
  refine o_listOf (LIn.of el) (by rw [sizeLine_eq]; lia) fun a na => ?_
  have L1 : Le g (upd g a (.lst vl)) := Le.upd na
  have e1 : (upd g a (.lst vl)) a = some (.lst vl) := upd_self ..
  generalize upd g a (.lst vl) = g1 at *
  walk_at "tws"
  refine s_tup (L1 _ _ eP) (o_getT (L1 _ _ eP) (by lia) (by lia) (by rfl) ?_)
  walk_at "tws"
  refine o_listOf (LIn.of (L1 _ _ ed)) (by rw [sizeLine_eq]; lia) fun b nb => ?_
  have L12 : Le g1 (upd g1 b (.lst vd)) := Le.upd nb
  have e2 : (upd g1 b (.lst vd)) b = some (.lst vd) := upd_self ..
  generalize upd g1 b (.lst vd) = g2 at *
  have e12 := L12 _ _ e1
  have L2 := L1.trans L12
  walk_at "tws"
  refine ⟨by walk_at "sz", fun T nT => ?_⟩
  have L23 : Le g2 (upd g2 T (.tup [.ref a, .ref b])) := Le.upd nT
  have eT : (upd g2 T (.tup [.ref a, .ref b])) T = some (.tup [.ref a, .ref b]) := upd_self ..
  generalize upd g2 T (.tup [.ref a, .ref b]) = g3 at *
  have L3 := L2.trans L23
  walk_at "tws"
  have hu := hA'.units
  refine o_eqD (dx := .tuple [.list ((flat bs).map .int), .list (ws.map .int)]) (dy := .tuple [.list ((flat bs).map .int), .list (ws.map .int)])
    (RD.tup eT (.cons (RD.ints (L23 _ _ e12) rl) (.cons (RD.ints (L23 _ _ e2) rd) .nil))) (RD.tup (L3 _ _ eU) (.cons (RD.ints (L3 _ _ ec) rc) (.cons (RD.ints (L3 _ _ ew) rw_) .nil)))
    (shaped_two _ _) (shaped_two _ _) (by lia) ?_
  rw [eqv_same _ (shaped_two _ _)]
  walk_at "tws"
  walk_at "yes"
  walk_at "tws"
  refine s_tup (L3 _ _ eP) (o_getT (L3 _ _ eP) (by lia) (by lia) (by rfl) ?_)
  walk_at "tws"
  refine f_herr W (by walk_at "room") (H.le L3) ⟨vl, L3 _ _ el, rl⟩ hz ok fun g4 L4 => ?_
  walk_at "tws"
  refine o_isNone (by intro _ q; cases q) ?_
  exact h _ (L3.trans L4)
end
end
-- part X1
section
set_option maxHeartbeats 1000000
/-! ## Frames whose slots may turn -/
structure StepS (c : Cx) (fs : List Addr) (s : Shared) (g : GH) (s' : Shared) (g' : GH) : Prop where
  has : Has c g' s'.heap
  out : ∀ b o, s.heap.get? b = some o → g b = none → g' b = none ∧ (b ∉ fs → s'.heap.get? b = some o) ∧ ∃ sl, s'.heap.get? b = some { o with slots := sl }
  os : s'.os = s.os
  gens : s'.gens = s.gens
section
variable {c : Cx} {fs : List Addr} {s s' s'' : Shared} {g g' g'' : GH}
theorem Step.sl (x : Step c s g s' g') : StepS c fs s g s' g' := ⟨x.has, fun b o e n => ⟨(x.out b o e n).2, fun _ => (x.out b o e n).1, o.slots, (x.out b o e n).1⟩, x.os, x.gens⟩
theorem StepS.trans (x : StepS c fs s g s' g') (y : StepS c fs s' g' s'' g'') : StepS c fs s g s'' g'' :=
  ⟨y.has, fun b o e n => by
    obtain ⟨n1, k1, sl1, e1⟩ := x.out b o e n
    obtain ⟨n2, k2, sl2, e2⟩ := y.out b _ e1 n1
    exact ⟨n2, fun h => (y.out b o (k1 h) n1).2.1 h, sl2, e2⟩, y.os.trans x.os, y.gens.trans x.gens⟩
theorem BaseOk.stepS (hb : BaseOk c s.heap g) (x : StepS c fs s g s' g') (h : ∀ b ∈ fs, c.B.get? b = none) : BaseOk c s'.heap g' := fun b o e =>
  have q := x.out b o (hb b o e).1 (hb b o e).2
  ⟨q.2.1 (fun m => by rw [h b m] at e; cases e), q.1⟩
end

noncomputable def fsOf (l : List Env) : List Addr := l.filterMap (·.frame)
structure Frs (c : Cx) (l : List Env) (h : Heap) (g : GH) : Prop where
  fr : h.FunFrames c.B l
  no : ∀ b ∈ fsOf l, g b = none
theorem funFrames_map {base h h' : Heap} : ∀ {l : List Env}, (∀ b ∈ l.filterMap (·.frame), ∀ o, h.get? b = some o → ∃ sl, h'.get? b = some { o with slots := sl }) → h.FunFrames base l → h'.FunFrames base l
  | [], _, _ => trivial
  | env :: rest, k, hl => by
    obtain ⟨hk, ⟨L, o, hf, hn, ho, hd⟩, hr⟩ := hl
    rw [List.filterMap_cons, hf] at k
    obtain ⟨sl, e⟩ := k L (List.mem_cons_self) o ho
    exact ⟨hk, ⟨L, _, hf, hn, e, hd⟩, funFrames_map (fun b m => k b (List.mem_cons_of_mem _ m)) hr⟩
section
variable {c : Cx} {l : List Env} {fs : List Addr} {s s' : Shared} {g g' : GH}
theorem Frs.base (x : Frs c l s.heap g) : ∀ b ∈ fsOf l, c.B.get? b = none := fun b m => (x.fr.mem m).1
theorem Frs.step (x : Frs c l s.heap g) (y : StepS c fs s g s' g') : Frs c l s'.heap g' :=
  ⟨funFrames_map (fun b m o e => (y.out b o e (x.no b m)).2.2) x.fr, fun b m => by
    obtain ⟨_, o, e, _⟩ := x.fr.mem m
    exact (y.out b o e (x.no b m)).1⟩
theorem StepS.junk (hh : Has c g s.heap) {fs : List Addr} {h' : Heap} (no : ∀ b ∈ fs, g b = none) (x : Heap.SlotsOnly fs s.heap h') : StepS c fs s g { s with heap := h' } g :=
  ⟨fun b ao e => RepH.keep (hh b ao e) fun o q => (x.2.1 b fun m => by rw [no b m] at e; cases e).trans q, fun b o e n => ⟨n, fun h => (x.2.1 b h).trans e, x.2.2 b o e⟩, rfl, rfl⟩
end

/-- an exception of an own class, its trace told -/
structure EX (g : GH) (e C dx T : Addr) (fl : Value) : Prop where
  ex : ∃ oe vs oT ts, g e = some (.raw oe) ∧ oe.cls = .ref C ∧ oe.dict = some dx ∧ oe.data = .fields vs ∧ vs[1]? = some (.ref T) ∧ g T = some (.raw oT) ∧ oT.data = .fields ts ∧ ts[3]? = some fl
  ne : T ≠ e
theorem cls_map {o : Obj} {f : Array Value → Array Value} {vs : Array Value} (h : o.data = .fields vs) : (o.mapFields f).cls = o.cls ∧ (o.mapFields f).dict = o.dict ∧ (o.mapFields f).data = .fields (f vs) := by
  obtain ⟨a, b, d, e⟩ := o; cases h; exact ⟨rfl, rfl, rfl⟩

section
variable {c : Cx} {A : Around} {E : Value → Shared → Prop} {Q : Unit → Shared → Prop} {s : Shared} {g : GH} {env : Env} {outer : List Env} {L e C dx T : Addr} {oe : Obj} {vs : Array Value}
theorem note_entry {head : Value} {hadNext : Bool} (hfr : A.frames = some (env :: outer)) (fr : Frs c (env :: outer) s.heap g) (hf : env.frame = some L) (hh : Has c g s.heap) (ge : g e = some (.raw oe)) (hd : oe.data = .fields vs) (h1 : 1 < vs.size)
    (h : ∀ T oT ts s', StepS c (fsOf (env :: outer)) s g s' (upd (upd g T (.raw oT)) e (.raw (oe.mapFields (·.setIfInBounds 1 (.ref T))))) → g T = none → T ≠ e → oT.data = .fields ts → ts[3]? = some (rawInt L) → Q () s') :
    wpAny c.M A (do let a ← frameOf env; let pl ← entryPlaceOf L hadNext; let b ← EntryCells.newEntry head a .none (rawInt L) .none pl; setField (.ref e) 1 b) Q E s := by
  refine wpAny_bind (wpAny_frameOf_fun hfr fr.fr hf fun h₁ hs₁ => ?_)
  have st1 : StepS c (fsOf (env :: outer)) s g { s with heap := h₁ } g := StepS.junk hh fr.no hs₁
  refine wpAny_bind (wpAny_entryPlaceOf fun pl hpl => ?_)
  unfold EntryCells.newEntry newFields
  refine wpAny_bind (wpAny_newObj_type ?_ (hpl.sizeOk5 _ _ _ _ _))
  have hh₁ := st1.has
  have he₁ : h₁.get? e = some oe := hh₁ e _ ge
  generalize hoT : ({ cls := .type "traceback", dict := none, data := .fields ([head, .ref L, .none, rawInt L, .none] ++ (if pl.isEmpty then List.replicate 6 Value.none else pl)).toArray } : Obj) = oT
  obtain ⟨ts, hdT, h3⟩ : ∃ ts, oT.data = .fields ts ∧ ts[3]? = some (rawInt L) := ⟨_, by rw [← hoT], by simp⟩
  have hTf : oT.isFreed = false := by rw [← hoT]; rfl
  have n1 : h₁.get? h₁.objs.size = none := get_size_none _
  have gT : g h₁.objs.size = none := Has.fresh hh₁ n1
  have st2 : Step c { s with heap := h₁ } g { s with heap := h₁.push oT } (upd g h₁.objs.size (.raw oT)) :=
    Step.new (s := { s with heap := h₁ }) (ao := .raw oT) (tk := s.toks) hh₁ n1 (fun b o q => Heap.get?_push_of_some _ q) (Heap.get?_push_size _ hTf)
  have hTe : h₁.objs.size ≠ e := Nat.ne_of_gt (Heap.lt_size he₁)
  have he₂ := Heap.get?_push_of_some (h := h₁) oT he₁
  refine wpAny_setField he₂ hd h1 ?_
  have hd₃ := Obj.data_mapFields hd (·.setIfInBounds 1 (Value.ref h₁.objs.size))
  have he₃ := Heap.get?_update_self (Obj.mapFields (·.setIfInBounds 1 (Value.ref h₁.objs.size))) he₂ (Obj.isFreed_of_fields hd₃)
  have st3 := Step.store (c := c) (s := { s with heap := h₁.push oT }) (ao' := .raw _) (tk := s.toks) st2.has (a := e) (ao := .raw oe) (by rw [upd_ne hTe.symm]; exact ge) (Heap.SameBut.update ..) he₃
  exact h _ oT ts _ ((st1.trans st2.sl).trans st3.sl) gT hTe hdT h3

theorem note_first (hfr : A.frames = some (env :: outer)) (fr : Frs c (env :: outer) s.heap g) (hf : env.frame = some L) (hh : Has c g s.heap) (ge : g e = some (.raw oe)) (hc : oe.cls = .ref C) (hdx : oe.dict = some dx) (hd : oe.data = .fields vs) (h1 : vs[1]? = some .none)
    (h : ∀ T g' s', StepS c (fsOf (env :: outer)) s g s' g' → g T = none → (∀ b, b ≠ e → b ≠ T → g' b = g b) → EX g' e C dx T (rawInt L) → Q () s') : wpAny c.M A (noteFrame (.ref e) env) Q E s := by
  have hsz := (Array.getElem?_eq_some_iff.mp h1).1
  unfold noteFrame
  simp only [hf]
  refine wpAny_bind (wpAny_field (hh e _ ge) hd h1 ?_)
  rw [if_neg (by decide)]
  refine note_entry hfr fr hf hh ge hd hsz fun T oT ts s' st gT ne hdT h3 => ?_
  obtain ⟨m1, m2, m3⟩ := cls_map (f := (·.setIfInBounds 1 (.ref T))) hd
  exact h T _ s' st gT (fun b n1 n2 => by rw [upd_ne n1, upd_ne n2]) ⟨⟨_, _, oT, ts, upd_self .., m1.trans hc, m2.trans hdx, m3, by simp [hsz], by rw [upd_ne ne]; exact upd_self .., hdT, h3⟩, ne⟩

theorem note_more (hfr : A.frames = some (env :: outer)) (fr : Frs c (env :: outer) s.heap g) (hf : env.frame = some L) (hh : Has c g s.heap) (X : EX g e C dx T .none)
    (h : ∀ T' g' s', StepS c (fsOf (env :: outer)) s g s' g' → g T' = none → (∀ b, b ≠ e → b ≠ T → b ≠ T' → g' b = g b) → EX g' e C dx T' (rawInt L) → Q () s') : wpAny c.M A (noteFrame (.ref e) env) Q E s := by
  obtain ⟨⟨oe, vs, oT, ts, ge, hc, hdx, hd, h1, gT, hdT, h3⟩, ne⟩ := X
  have hsz := (Array.getElem?_eq_some_iff.mp h1).1
  have hsz3 := (Array.getElem?_eq_some_iff.mp h3).1
  unfold noteFrame
  simp only [hf]
  refine wpAny_bind (wpAny_field (hh e _ ge) hd h1 ?_)
  rw [if_pos (show (Value.ref T != Value.none) = true from by simp)]
  refine wpAny_bind (wpAny_field (hh T _ gT) hdT h3 ?_)
  rw [if_neg (show ¬ ((Value.none == rawInt L) = true) from by simp [rawInt])]
  refine wpAny_bind (wpAny_setField (hh T _ gT) hdT hsz3 ?_)
  have hT₃ := Heap.get?_update_self (Obj.mapFields (·.setIfInBounds 3 Value.none)) (hh T _ gT) (Obj.isFreed_of_fields (Obj.data_mapFields hdT _))
  have st1 := Step.store (c := c) (s := s) (ao' := .raw _) (tk := s.toks) hh (a := T) gT (Heap.SameBut.update ..) hT₃
  generalize hg1 : upd g T _ = g1 at st1
  have k1 : ∀ b, b ≠ T → g1 b = g b := fun b n => by rw [← hg1, upd_ne n]
  have n1 : ∀ b, g1 b = none → g b = none := fun b q => by
    by_cases hb : b = T
    · subst hb; rw [← hg1, upd_self] at q; cases q
    · rw [← k1 b hb]; exact q
  have fr1 := fr.step (st1.sl (fs := []))
  refine note_entry (s := { s with heap := s.heap.update T (Obj.mapFields (·.setIfInBounds 3 Value.none)) }) hfr fr1 hf st1.has (by rw [k1 e ne.symm]; exact ge) hd hsz fun T' oT' ts' s' st gT' ne' hdT' h3' => ?_
  obtain ⟨m1, m2, m3⟩ := cls_map (f := (·.setIfInBounds 1 (.ref T'))) hd
  exact h T' _ s' (st1.sl.trans st) (n1 _ gT') (fun b q1 q2 q3 => by rw [upd_ne q1, upd_ne q3, k1 b q2]) ⟨⟨_, _, oT', ts', upd_self .., m1.trans hc, m2.trans hdx, m3, by simp [hsz], by rw [upd_ne ne']; exact upd_self .., hdT', h3'⟩, ne'⟩

theorem flight_none {fl : Value} (hh : Has c g s.heap) (X : EX g e C dx T fl) (h : ∀ g' s', Step c s g s' g' → (∀ b, b ≠ T → g' b = g b) → EX g' e C dx T .none → Q () s') : wpAny c.M A (setFlight (.ref e) none) Q E s := by
  obtain ⟨⟨oe, vs, oT, ts, ge, hc, hdx, hd, h1, gT, hdT, h3⟩, ne⟩ := X
  have hsz3 := (Array.getElem?_eq_some_iff.mp h3).1
  unfold setFlight
  refine wpAny_bind (wpAny_field (hh e _ ge) hd h1 ?_)
  rw [if_pos (show (Value.ref T != Value.none) = true from by simp)]
  refine wpAny_setField (hh T _ gT) hdT hsz3 ?_
  have hT₃ := Heap.get?_update_self (Obj.mapFields (·.setIfInBounds 3 Value.none)) (hh T _ gT) (Obj.isFreed_of_fields (Obj.data_mapFields hdT _))
  have st1 := Step.store (c := c) (s := s) (ao' := .raw _) (tk := s.toks) hh (a := T) gT (Heap.SameBut.update ..) hT₃
  obtain ⟨m1, m2, m3⟩ := cls_map (f := (·.setIfInBounds 3 Value.none)) hdT
  exact h _ _ st1 (fun b n => upd_ne n) ⟨⟨oe, vs, _, _, by rw [upd_ne ne.symm]; exact ge, hc, hdx, hd, h1, upd_self .., m3, by simp [hsz3]⟩, ne⟩

theorem leave_first (hfr : A.frames = some (env :: outer)) (fr : Frs c (env :: outer) s.heap g) (hf : env.frame = some L) (hh : Has c g s.heap) (ge : g e = some (.raw oe)) (hc : oe.cls = .ref C) (hdx : oe.dict = some dx) (hd : oe.data = .fields vs) (h1 : vs[1]? = some .none)
    (h : ∀ T g' s', StepS c (fsOf (env :: outer)) s g s' g' → g T = none → (∀ b, b ≠ e → b ≠ T → g' b = g b) → EX g' e C dx T .none → Q () s') : wpAny c.M A (leaving env (.ref e)) Q E s := by
  unfold leaving
  refine wpAny_bind (note_first hfr fr hf hh ge hc hdx hd h1 fun T g' s' st gT k X => ?_)
  exact flight_none st.has X fun g'' s'' st2 k2 X2 => h T g'' s'' (st.trans st2.sl) gT (fun b n1 n2 => (k2 b n2).trans (k b n1 n2)) X2
end
end
-- part X2
section
set_option maxHeartbeats 1000000
set_option maxRecDepth 100000
noncomputable def bm58 : List Value := [.ref 38, .type "Exception", .type "BaseException", .type "object"]
structure FX (c : Cx) : Prop where
  at58 : ∃ nm q bs sn sub ab col dd k0 k1 k2 k3 k5, c.B.get? 58 = some (excClassObj nm q 58 57 bs bm58 true sn sub ab col dd k0 k1 k2 k3 k5 "Exception.__new__")
  cls : ∃ cd, clsIn c.K 58 = some cd ∧ cd.mro = .ref 58 :: bm58 ∧ cd.hasDict = true
  init : findIn c.K (.ref 58) "__init__" = some (some (.ref 55))
  sattr : findIn c.K (.ref 58) "__setattr__" = some (some (.builtin "object.__setattr__"))
  gattr : findIn c.K (.ref 58) "__getattribute__" = some (some (.builtin "BaseException.__getattribute__"))
  gatt : findIn c.K (.ref 58) "__getattr__" = some none
  word : findIn c.K (.ref 58) "word" = some none
  irr : findIn c.K (.ref 58) "irritants" = some none
  size : findIn c.K (.ref 58) "size" = some none
  g38 : specialIn c.K (.ref 38) "__getattribute__" = some (some (.builtin "type.__getattribute__"))
  r38 : readsIn c.K 38 (.type "type") = true
  f38 : findCls c.K (.ref 38) (.type "type") "__init__" = some (.val (.ref 35))

noncomputable def exObj (t : Addr) (dx : Option Addr) : Obj := { cls := .ref 58, dict := dx, data := .fields #[.ref t, .none, .none, .none, .bool false, .none] }
noncomputable def gEx (g : GH) (t e : Addr) (args : List Value) : GH := upd (upd g t (.tup args)) e (.raw (exObj t none))

theorem contains_cons' (C : Addr) (x : String) (b : Bool) (h : bm58.contains (.type x) = b) : (Value.ref C :: bm58).contains (.type x) = b := by rw [List.contains_cons, h]; rfl

section
variable {prog : Program} {w : World} {A : Around} {R : Result → Shared → Prop} {E : Value → Shared → Prop} {h : Heap} {g : Array GenState} {d : Drawn} {t : Nat} {os : OsState}
variable {nm q : Str} {bs : List Value} {sn : List Str} {sub : List Value} {ab : Bool} {col : Option Bool} {dd : Option Addr} {k0 k1 k2 k3 k5 : Option Value}
theorem check_new58 {rest : List Value} {Q : Unit → Shared → Prop} (hC : h.get? 58 = some (excClassObj nm q 58 57 bs bm58 true sn sub ab col dd k0 k1 k2 k3 k5 "Exception.__new__"))
    (hq : Q () ⟨h, g, d, t, os⟩) : wpAny (model prog w) A (checkBuiltinCall "Exception.__new__" ⟨.ref 58 :: rest, []⟩) Q E ⟨h, g, d, t, os⟩ :=
  wpAny_check_new_subU PySem.F.excBase_Exception (bmB := bm58) (by decide +kernel) OwnTail.base hC hq
theorem new58 {rest : List Value} (hC : h.get? 58 = some (excClassObj nm q 58 57 bs bm58 true sn sub ab col dd k0 k1 k2 k3 k5 "Exception.__new__"))
    (hq : R (.ok (.ret (.ref (h.objs.size + 1)))) ⟨(h.push { cls := .type "tuple", data := .seq rest.toArray }).push (exObj h.objs.size none), g, d, t, os⟩) (hrest : rest.length ≤ sizeLine) :
    codeAny (model prog w) A (.builtin "Exception.__new__" ⟨.ref 58 :: rest, []⟩) R ⟨h, g, d, t, os⟩ := by
  have Fn := PySem.F.excBase_Exception
  have hends := Fn.ends
  have hcB : (Value.ref 58 :: bm58).contains (.type "Exception") = true := contains_cons' _ _ _ (by decide +kernel)
  have hcA : (Value.ref 58 :: bm58).contains (.type "AttributeError") = false := contains_cons' _ _ _ (by decide +kernel)
  have hcN : (Value.ref 58 :: bm58).contains (.type "NameError") = false := contains_cons' _ _ _ (by decide +kernel)
  refine codeAny_builtinAt Fn.entry ?_
  unfold Builtin.«BaseException.__new__»
  refine PySem.wpAt_bind ?_
  show PySem.wpAt _ _ _ (stack >>= _) _ _ _
  refine PySem.wpAt_bind (PySem.wpAt_stack fun p below => PySem.wpAt_of_wpAny ?_)
  wp_walk
  refine PySem.wpAt_of_wpAny ?_
  rw [Fn.owner]
  repeat (first | with_reducible refine wpAny_madeHere_exc Fn.canon hC ?_ | with_reducible refine wpAny_loadPart_at hC ?_ | (with_reducible refine wpAny_isSubtype_exc hC ?_; first | rw [hcB] | rw [hcA] | rw [hcN]) | wp_step)
  show R _ _
  rw [Heap.size_push]
  exact hq
end

section
variable {c : Cx} {F : Fm} {A : Around} {g : GH} {Q : Value → GH → Prop}
theorem x_make {args : List Value} (hc : c.Ok) (X : FX c) (W : typeIn c.K (.ref 55) = some (.type "function")) (hrest : args.length ≤ sizeLine)
    (hq : ∀ e t, g e = none → g t = none → e ≠ t → ∀ s : Shared, BaseOk c s.heap (gEx g t e args) → Has c (gEx g t e args) s.heap →
      codeAny c.M (A.under (.builtin "type.__call__" ⟨.ref 58 :: args, []⟩)) (.call (.ref 55) ⟨.ref e :: args, []⟩) (fun r s' => match r with | .ok (.ret v) => ∃ g', Step c s (gEx g t e args) s' g' ∧ (v = .none ∧ Q (.ref e) g') | .ok _ => False | .error _ => False) s) :
    TW c F A (call (.ref 58) args) g Q := fun s hb hfr hh => by
  obtain ⟨h, gs, d, tk, os⟩ := s
  obtain ⟨nm, q, bs, sn, sub, ab, col, dd, k0, k1, k2, k3, k5, e58⟩ := X.at58
  have hC : h.get? 58 = some _ := (hb _ _ e58).1
  have XK : c.K.In h := kin_at hc hb
  have Fn := PySem.F.excBase_Exception
  have f1 := tc_lookup
  have f2 := tc_bind (.ref 58)
  have hT : (⟨h, gs, d, tk, os⟩ : Shared).TypeIs (.ref 58) "type" := ⟨_, hC, rfl⟩
  refine wpAny_call (codeAny_of_tree ?_)
  show wpAny _ _ (callAny (.ref 58) _) _ _ _
  repeat (any_goals (first | assumption | with_reducible refine wpAny_loadPart_at hC ?_ | wp_step))
  refine ⟨rfl, ?_⟩
  refine codeAny_call_builtin_at (Code.quiet_builtin _ (by decide +kernel)) entry_typeCall (wpAny_check_type_call_sub hC ?_)
  repeat (first | with_reducible refine wpAny_loadPart_at hC ?_ | with_reducible refine wpAny_madeBy_exc hC ?_ | wp_step)
  refine codeAny_call_builtin_code (Code.quiet_builtin _ Fn.quiet) (check_new58 hC ?_)
  refine new58 hC ?_ hrest
  show wpAny _ _ _ _ _ _
  have n1 : h.get? h.objs.size = none := get_size_none _
  have n2 : h.get? (h.objs.size + 1) = none := get_ge_none (Nat.le_succ _)
  have ne : h.objs.size + 1 ≠ h.objs.size := Nat.succ_ne_self _
  have k1' : ∀ b o, h.get? b = some o → ((h.push { cls := .type "tuple", data := .seq args.toArray }).push (exObj h.objs.size none)).get? b = some o := fun b o e => Heap.get?_push_of_some _ (Heap.get?_push_of_some _ e)
  have hC₁ := k1' _ _ hC
  have e1 : ((h.push { cls := .type "tuple", data := .seq args.toArray }).push (exObj h.objs.size none)).get? h.objs.size = some { cls := .type "tuple", data := .seq args.toArray } := Heap.get?_push_of_some _ (Heap.get?_push_size _ rfl)
  have hget : ((h.push { cls := .type "tuple", data := .seq args.toArray }).push (exObj h.objs.size none)).get? (h.objs.size + 1) = some (exObj h.objs.size none) := by
    have : (h.push { cls := .type "tuple", data := .seq args.toArray }).objs.size = h.objs.size + 1 := by simp [Heap.push]
    rw [← this]; exact Heap.get?_push_size _ rfl
  have st : Step c ⟨h, gs, d, tk, os⟩ g ⟨(h.push { cls := .type "tuple", data := .seq args.toArray }).push (exObj h.objs.size none), gs, d, tk, os⟩ (gEx g h.objs.size (h.objs.size + 1) args) := by
    refine ⟨fun b ao q => ?_, fun b o q n0 => ⟨k1' _ _ q, ?_⟩, rfl, rfl⟩
    · unfold gEx at q
      by_cases b1 : b = h.objs.size + 1
      · subst b1; rw [upd_self] at q; cases q; exact hget
      · rw [upd_ne b1] at q
        by_cases b2 : b = h.objs.size
        · subst b2; rw [upd_self] at q; cases q; exact e1
        · rw [upd_ne b2] at q; exact RepH.keep (hh b ao q) fun o z => k1' b o z
    · have b1 : b ≠ h.objs.size + 1 := by rintro rfl; rw [n2] at q; cases q
      have b2 : b ≠ h.objs.size := by rintro rfl; rw [n1] at q; cases q
      unfold gEx
      rw [upd_ne b1, upd_ne b2]; exact n0
  have hcC : (Value.ref 58 :: bm58).contains (.ref 58) = true := by decide +kernel
  have XK₁ : c.K.In ((h.push { cls := .type "tuple", data := .seq args.toArray }).push (exObj h.objs.size none)) := fun a o e => k1' _ _ (XK a o e)
  have hqq := hq (h.objs.size + 1) h.objs.size (hh.fresh n2) (hh.fresh n1) ne _ (hb.step st) st.has
  unfold isInstance
  repeat (first | with_reducible refine wpAny_loadPart_at hget ?_ | wp_step)
  refine wpAny_isSubtype_exc hC₁ ?_
  rw [hcC]
  repeat (first | with_reducible refine wpAny_loadPart_at hget ?_ | wp_step)
  show wpAny _ _ (typeLookup (.ref 58) _) _ _ _
  refine (looks_findIn XK₁ X.init).at ?_
  refine wpAny_holding (wpAny_bind ((bind_fn XK₁ _ W).at ?_))
  refine wpAny_bind (wpAny_call (codeAny_mono hqq fun r s' z => ?_))
  rcases r with e | (_ | _ | _ | v) <;> first | exact z.elim | skip
  obtain ⟨g', st', rfl, z⟩ := z
  wp_walk
  exact ⟨g', st.trans st', z⟩
end
end
-- part X3
section
open Builtin Builtin.ObjectAttr
set_option maxHeartbeats 1000000
set_option maxRecDepth 100000
section
variable {prog : Program} {w : World} {A : Around} {K : Frag} {s : Shared} {R : Result → Shared → Prop} {x : Addr} {ox : Obj} {od : Option Obj} {name : Str} {tk : Tok} {v : Value} {cd : ClassData}
theorem sub58 {M : Model} {h : Heap} {y : String} (X : K.In h) (hc : clsIn K 58 = some cd) (hm : cd.mro = .ref 58 :: bm58) (hy : (Value.ref 58 :: bm58).contains (.type y) = true) : Looks M h (isSubtype (.ref 58) (.type y)) true := by
  refine looks_mroIn X ?_
  unfold mroIn
  rw [hc, Option.bind_some, hm, if_neg (by decide), hy]
theorem osa58 (X : K.In s.heap) (I : InstAt s.heap x ox 58 od) (hc : clsIn K 58 = some cd) (hm : cd.mro = .ref 58 :: bm58) (ha : findIn K (.ref 58) name = some none)
    (h : ∀ b, wpAny (model prog w) A.in1 (storeInOwnDict (.ref x) (.ref 58) (.str name tk) name v b)
      (fun fin s' => match fin with | .done f => R (.ok f) s' | .again c' => c'.quiet = true ∧ codeAny (model prog w) A c' R s') (fun e s' => R (.error e) s') s) :
    codeAny (model prog w) A (.call (.builtin "object.__setattr__") ⟨[.ref x, .str name tk, v], []⟩) R s := by
  have SF := PySem.F.store_object
  have sub : Looks (model prog w) s.heap (isInstance (.ref x) (.type "object")) true := I.type.andThen (sub58 X hc hm (by decide +kernel))
  refine codeAny_call_builtin SF.slot.plain SF.entry (@check_slot (model prog w) _ _ s "object.__setattr__" "object" "__setattr__" (.ref x) [.str name tk, v] [] _ SF.kind SF.split sub (SF.args (.ref x) (.str name tk) v) ?_)
  have hmL : Looks (model prog w) s.heap (mroOf (.ref 58)) cd.mro := (looks_clsIn X hc).andThen .now
  rw [osa_eq, refuse_eq]
  refine wpAny_bind (wpAny_bind (I.type.here (wpAny_bind (hmL.here ?_))))
  rw [hm, bm58, refuseLoop_ref, refuseLoop_ref, PySem.F.store_Exception.passes]
  refine wpAny_pure (wpAny_bind (I.type.here (wpAny_bind ((looks_findIn X ha).here (wpAny_bind (wpAny_pure ?_))))))
  exact h _
end
section
variable {c : Cx} {F : Fm} {A : Around} {g : GH} {Q : Value → GH → Prop} {U : Unit → GH → Prop} {t x dx : Addr} {name : Str} {v : Value} {es : List DictEntry} {n : Nat}
theorem inst58 {h : Heap} (hh : Has c g h) (ge : g x = some (.raw (exObj t (some dx)))) (gd : g dx = some (.raw (PySem.W.dictOf es n))) : InstAt h x (exObj t (some dx)) 58 (some (PySem.W.dictOf es n)) := ⟨hh x _ ge, rfl, rfl, hh dx _ gd⟩
theorem inst58n {h : Heap} (hh : Has c g h) (ge : g x = some (.raw (exObj t none))) : InstAt h x (exObj t none) 58 none := ⟨hh x _ ge, rfl, rfl, trivial⟩

theorem x_setNew (hc : c.Ok) (X : FX c) (ge : g x = some (.raw (exObj t none))) (ha : findIn c.K (.ref 58) name = some none)
    (h : ∀ dx tk, g dx = none → dx ≠ x → U () (upd (upd g dx (.raw (PySem.W.dictOf (PySem.W.putL name (PyData.keyHash c.w.params name) (.str name tk) v []) (PySem.W.putN name [] 0)))) x (.raw (exObj t (some dx))))) : TW c F A (setAttr (.ref x) name v) g U := fun s hb hfr hh => by
  obtain ⟨cd, hcl, hm, hd'⟩ := X.cls
  have I' := inst58n hh ge
  refine set_plain (kin_at hc hb) I' X.sattr (osa58 (s := { s with toks := s.toks + 1 }) (kin_at hc hb) I' hcl hm ha fun b => ?_)
  have hx : s.heap.get? x = some (exObj t none) := hh x _ ge
  refine wpAny_bind (wpAny_pure (wpAny_bind (wpAny_bind (wpAny_loadPart hx (wpAny_bind (Looks.here (s := { s with toks := s.toks + 1 }) (looks_clsIn (kin_at hc hb) hcl) ?_))))))
  rw [hd']
  have n1 : s.heap.get? s.heap.objs.size = none := get_size_none _
  have gD := Has.fresh hh n1
  have xne : s.heap.objs.size ≠ x := fun e => by rw [e] at n1; rw [n1] at hx; cases hx
  show wpAny _ _ (alloc { cls := .type "dict", data := .dict #[] } >>= fun d => update x (fun o => { o with dict := some d }) >>= fun _ => pure (some d)) _ _ _
  refine wpAny_bind (wpAny_alloc ?_)
  have hx1 : (s.heap.push { cls := .type "dict", data := .dict #[] }).get? x = some (exObj t none) := Heap.get?_push_of_some _ hx
  refine wpAny_bind (wpAny_update (s := { s with heap := s.heap.push { cls := .type "dict", data := .dict #[] }, toks := s.toks + 1 }) hx1 (wpAny_pure (wpAny_bind (wpAny_pure (wpAny_bind ?_)))))
  have st1 : Step c s g { s with heap := s.heap.push { cls := .type "dict", data := .dict #[] }, toks := s.toks + 1 } (upd g s.heap.objs.size (.raw (PySem.W.dictOf [] 0))) :=
    Step.new (ao := .raw (PySem.W.dictOf [] 0)) (tk := s.toks + 1) hh n1 (fun b o q => Heap.get?_push_of_some _ q) (Heap.get?_push_size _ rfl)
  have st2 := Step.store (c := c) (s := { s with heap := s.heap.push { cls := .type "dict", data := .dict #[] }, toks := s.toks + 1 }) (ao' := .raw (exObj t (some s.heap.objs.size))) (tk := s.toks + 1) st1.has (a := x) (ao := .raw (exObj t none)) (by rw [upd_ne xne.symm]; exact ge)
    (Heap.SameBut.update ..) (Heap.get?_update_self (fun o : Obj => { o with dict := some s.heap.objs.size }) hx1 rfl)
  generalize hH : (s.heap.push { cls := .type "dict", data := .dict #[] }).update x (fun o => { o with dict := some s.heap.objs.size }) = H at st2
  generalize hG : upd (upd g s.heap.objs.size (.raw (PySem.W.dictOf [] 0))) x (.raw (exObj t (some s.heap.objs.size))) = G at st2
  have hGd : G s.heap.objs.size = some (.raw (PySem.W.dictOf [] 0)) := by rw [← hG, upd_ne xne, upd_self]
  have D : H.get? s.heap.objs.size = some (PySem.W.dictOf [] 0) := st2.has _ _ hGd
  generalize hdxx : s.heap.objs.size = dx at *
  unfold nsSet
  refine wpAny_bind (wpAny_bind (wpAny_askSetting (wpAny_pure (wpAny_bind (wpAny_mkText (wpAny_bind (wpAny_loadPart (s := { s with heap := H, toks := s.toks + 1 + 1 }) D ?_)))))))
  dsimp only
  have cc' : (!(([] : List DictEntry).toArray.any (·.key.isStr name)) && ([] : List DictEntry).toArray.any (·.refKey)) = false := by simp
  rw [aRefKeyMayBeTheName_at, cc']
  refine wpAny_updatePart (s := { s with heap := H, toks := s.toks + 1 + 1 }) D ?_
  have e : ∀ key, Obj.putName name (PyData.keyHash c.w.params name) key v (PySem.W.dictOf [] 0) = PySem.W.dictOf (PySem.W.putL name (PyData.keyHash c.w.params name) key v []) (PySem.W.putN name [] 0) := fun key => putName_dict ..
  have got : (H.update dx (Obj.putName name (PyData.keyHash c.w.params name) (.str name (s.toks + 1)) v)).get? dx = some (PySem.W.dictOf (PySem.W.putL name (PyData.keyHash c.w.params name) (.str name (s.toks + 1)) v []) (PySem.W.putN name [] 0)) := by
    rw [Heap.get?_update_self _ D (by rw [e]; rfl), e]
  refine wpAny_bind (wpAny_lookBehind (s := { s with heap := H.update dx (Obj.putName name (PyData.keyHash c.w.params name) (.str name (s.toks + 1)) v), toks := s.toks + 1 + 1 }) got (by exact pastItsLine_dict (by rw [List.size_toArray, sizeLine_eq]; simp [PySem.W.putL])) ?_)
  refine wpAny_pure ?_
  have st3 := Step.store (c := c) (s := { s with heap := H, toks := s.toks + 1 }) (ao' := .raw (PySem.W.dictOf (PySem.W.putL name (PyData.keyHash c.w.params name) (.str name (s.toks + 1)) v []) (PySem.W.putN name [] 0))) (tk := s.toks + 1 + 1) st2.has (a := dx) hGd (Heap.SameBut.update ..) got
  refine ⟨_, (st1.trans st2).trans st3, ?_⟩
  have : upd G dx (.raw (PySem.W.dictOf (PySem.W.putL name (PyData.keyHash c.w.params name) (.str name (s.toks + 1)) v []) (PySem.W.putN name [] 0))) = upd (upd g dx (.raw (PySem.W.dictOf (PySem.W.putL name (PyData.keyHash c.w.params name) (.str name (s.toks + 1)) v []) (PySem.W.putN name [] 0)))) x (.raw (exObj t (some dx))) := by
    funext b
    rw [← hG]
    by_cases b1 : b = dx
    · subst b1; rw [upd_self, upd_ne xne, upd_self]
    · rw [upd_ne b1]
      by_cases b2 : b = x
      · subst b2; rw [upd_self, upd_self]
      · rw [upd_ne b2, upd_ne b2, upd_ne b1, upd_ne b1]
  rw [this]
  exact h dx _ gD xne
theorem x_set (hc : c.Ok) (X : FX c) (ge : g x = some (.raw (exObj t (some dx)))) (gd : g dx = some (.raw (PySem.W.dictOf es n))) (ha : findIn c.K (.ref 58) name = some none)
    (hl : (PySem.W.getL name es).isSome = true) (hz : (PySem.W.putL name (PyData.keyHash c.w.params name) (.str name 0) v es).length ≤ 1000)
    (h : ∀ tk, U () (upd g dx (.raw (PySem.W.dictOf (PySem.W.putL name (PyData.keyHash c.w.params name) (.str name tk) v es) (PySem.W.putN name es n))))) : TW c F A (setAttr (.ref x) name v) g U := fun s hb hfr hh => by
  obtain ⟨cd, hcl, hm, hd'⟩ := X.cls
  have I' := inst58 hh ge gd
  refine set_plain (kin_at hc hb) I' X.sattr (osa58 (s := { s with toks := s.toks + 1 }) (kin_at hc hb) I' hcl hm ha fun b => ?_)
  have hx : s.heap.get? x = some (exObj t (some dx)) := hh x _ ge
  have D : s.heap.get? dx = some (PySem.W.dictOf es n) := hh dx _ gd
  refine wpAny_bind (wpAny_pure (wpAny_bind (wpAny_bind (wpAny_loadPart hx (wpAny_bind (Looks.here (s := { s with toks := s.toks + 1 }) (looks_clsIn (kin_at hc hb) hcl) ?_))))))
  rw [hd']
  refine wpAny_pure (a := some dx) (wpAny_bind (wpAny_pure (wpAny_bind ?_)))
  unfold nsSet
  refine wpAny_bind (wpAny_bind (wpAny_askSetting (wpAny_pure (wpAny_bind (wpAny_mkText (wpAny_bind (wpAny_loadPart D ?_)))))))
  dsimp only
  have cc : (!es.any (·.key.isStr name) && es.any (·.refKey)) = false := by
    unfold PySem.W.getL at hl
    split at hl
    · rename_i en he
      rw [List.any_eq_true.mpr ⟨en, List.mem_of_find?_eq_some he, List.find?_some he⟩]; rfl
    · split at hl
      · cases hl
      · rename_i z; rw [Bool.not_eq_true] at z; rw [z, Bool.and_false]
  have cc' : (!es.toArray.any (·.key.isStr name) && es.toArray.any (·.refKey)) = false := by simpa using cc
  rw [aRefKeyMayBeTheName_at, cc']
  have D' : ({ s with toks := s.toks + 1 + 1 } : Shared).heap.get? dx = some (PySem.W.dictOf es n) := D
  refine wpAny_updatePart D' ?_
  have e : ∀ key, Obj.putName name (PyData.keyHash c.w.params name) key v (PySem.W.dictOf es n) = PySem.W.dictOf (PySem.W.putL name (PyData.keyHash c.w.params name) key v es) (PySem.W.putN name es n) := fun key => putName_dict ..
  have len : ∀ tk, (PySem.W.putL name (PyData.keyHash c.w.params name) (.str name tk) v es).length = (PySem.W.putL name (PyData.keyHash c.w.params name) (.str name 0) v es).length := fun tk => by
    clear hz hl cc cc' D D' I' h e gd
    induction es with
    | nil => rfl
    | cons e r ih => simp only [PySem.W.putL]; split <;> simp [ih]
  have got : (s.heap.update dx (Obj.putName name (PyData.keyHash c.w.params name) (.str name (s.toks + 1)) v)).get? dx = some (PySem.W.dictOf (PySem.W.putL name (PyData.keyHash c.w.params name) (.str name (s.toks + 1)) v es) (PySem.W.putN name es n)) := by
    rw [Heap.get?_update_self _ D (by rw [e]; rfl), e]
  refine wpAny_bind (wpAny_lookBehind (s := { s with heap := s.heap.update dx (Obj.putName name (PyData.keyHash c.w.params name) (.str name (s.toks + 1)) v), toks := s.toks + 1 + 1 }) got (by exact pastItsLine_dict (by rw [List.size_toArray, len, sizeLine_eq]; lia)) ?_)
  refine wpAny_pure ?_
  exact ⟨_, Step.store (ao' := .raw _) (tk := s.toks + 1 + 1) hh gd (Heap.SameBut.update ..) got, h _⟩
theorem x_get {expr : Bool} {ox : Obj} (hc : c.Ok) (X : FX c) (ge : g x = some (.raw ox)) (gc : ox.cls = .ref 58) (gn : notCls ox = true) (gdx : ox.dict = some dx) (gd : g dx = some (.raw (PySem.W.dictOf es n))) (ha : findIn c.K (.ref 58) name = some none)
    (hl : PySem.W.getL name es = some (some v)) (hh' : handedIn v = true) (h : Q v g) : TW c F A (getAttr (.ref x) name expr) g Q := fun s hb hfr hh => by
  obtain ⟨cd, hcl, hm, hd'⟩ := X.cls
  have FB := PySem.F.attrBase_Exception
  have I : InstAt s.heap x ox 58 (some (PySem.W.dictOf es n)) := ⟨hh x _ ge, gc, gn, by rw [gdx]; exact hh dx _ gd⟩
  have XK := kin_at hc hb
  have hf : findObj c.K 58 (some (PySem.W.dictOf es n)) name = some (.value v) := findObj_own (by unfold hasDictIn; rw [hcl]; exact hd') ha (by rfl) (by rw [lookIn_dict]; exact hl)
  have e1 : (Value.builtin "BaseException.__getattribute__" == Value.builtin "object.__getattribute__") = false := by decide +kernel
  refine wpAny_bind (wpAny_mkText (wpAny_holding (wpAny_bind (I.type _ _ _ _ (fun _ _ e => e) (wpAny_bind (looks_findIn XK X.gattr _ _ _ _ (fun _ _ e => e) ?_))))))
  dsimp only
  rw [show (onTheHeap (.ref 58) && Value.builtin "BaseException.__getattribute__" == Value.builtin "object.__getattribute__") = false from by rw [e1, Bool.and_false], if_neg (by decide)]
  refine wpAny_bind (looks_hook XK (mc := .ref 58) (r := none) (by rw [if_pos (by decide)]; exact X.gatt) _ _ _ _ (fun _ _ e => e) (wpAny_bind (wpAny_attempt (wpAny_holding ?_))))
  unfold callGetattribute
  rw [show (expr && onTheHeap (Value.builtin "BaseException.__getattribute__")) = false from Bool.and_false _, if_neg (by decide)]
  unfold boundAndCalled
  rw [FB.ga.bind]
  refine wpAny_bind (wpAny_pure ?_)
  show wpAny _ _ (call (.builtin "BaseException.__getattribute__") [.ref x, .str name s.toks]) _ _ _
  refine wpAny_call ?_
  refine codeAny_call_builtin FB.ga.plain PySem.F.entry_bexc_ga ?_
  refine @check_slot (model c.prog c.w) _ _ { s with toks := s.toks + 1 } "BaseException.__getattribute__" "BaseException" "__getattribute__" (.ref x) [.str name s.toks] [] _ (by decide +kernel) (by decide +kernel) (I.type.andThen (sub58 XK hcl hm (by decide +kernel))) (PySem.F.args_bexc_ga (.ref x) (.str name s.toks)) ?_
  unfold Builtin.«object.__getattribute__»
  refine wpAny_bind (wpAny_pure (wpAny_bind (wpAny_pure (wpAny_bind (I.type _ _ _ _ (fun _ _ e => e) (wpAny_bind (looks_find XK I hf _ _ _ _ (fun _ _ e => e) ?_)))))))
  refine wpAny_pure ?_
  show wpAny _ _ (handedOut v) _ _ _
  rw [handedOut_of hh']
  exact wpAny_pure ⟨g, Step.toks hh _, h⟩
end
end
-- part X4
section
set_option maxHeartbeats 1000000
set_option maxRecDepth 100000
section
variable {c : Cx} {F : Fm} {A : Around} {g : GH} {Q : Value → GH → Prop} {t e dx : Addr} {v1 v2 : Value} {n : Int} {tok : Tok}
theorem m38 {pl : Sem Bool} {R : Value × List Value → GH → Prop} (hc : c.Ok) (X : FX c) (h : R (.ref 35, []) g) : TW c F A (getMethod (.ref 38) "__init__" pl) g R := fun s hb hf hh =>
  method_cls (kin_at hc hb) X.g38 (cls_value (kin_at hc hb) X.r38 X.f38 (by rfl) ⟨g, Step.toks hh _, h⟩)

theorem f_init35 (W : Facts c) (X : FX c) (hA : Room 1 A) (ge : g e = some (.raw (exObj t none)))
    (h : ∀ g' dx h1 h2 t1 t2 m, LeB (· = e) g g' → g' e = some (.raw (exObj t (some dx))) → g' dx = some (.raw (PySem.W.dictOf [⟨h1, .str "word" t1, v1⟩, ⟨h2, .str "irritants" t2, v2⟩] m)) → g dx = none → dx ≠ e → Q .none g') : TW c F A (call (.ref 35) [.ref e, v1, v2]) g Q := by
  refine f_callL [("self", .ref e), ("word", v1), ("irritants", v2)] W.ok (W.mth 2 0 35 (by rfl)) hA (by rfl) (by decide +kernel) (by intros; rfl) (by rfl) ?_
  intro L qual cd A' ev he hA'
  walk_at "tws"
  refine x_setNew W.ok X ge X.word fun dx tk nd ne => ?_
  have e1 : upd (upd g dx (.raw (PySem.W.dictOf (PySem.W.putL "word" (PyData.keyHash c.w.params "word") (.str "word" tk) v1 []) (PySem.W.putN "word" [] 0)))) e (.raw (exObj t (some dx))) e = some (.raw (exObj t (some dx))) := upd_self ..
  obtain ⟨h1, n1, d1⟩ : ∃ h1 n1, upd (upd g dx (.raw (PySem.W.dictOf (PySem.W.putL "word" (PyData.keyHash c.w.params "word") (.str "word" tk) v1 []) (PySem.W.putN "word" [] 0)))) e (.raw (exObj t (some dx))) dx = some (.raw (PySem.W.dictOf [⟨h1, .str "word" tk, v1⟩] n1)) := ⟨_, _, by rw [upd_ne ne]; exact upd_self ..⟩
  have L1 : LeB (· = e) g (upd (upd g dx (.raw (PySem.W.dictOf (PySem.W.putL "word" (PyData.keyHash c.w.params "word") (.str "word" tk) v1 []) (PySem.W.putN "word" [] 0)))) e (.raw (exObj t (some dx)))) :=
    (LeB.upd (.inr nd)).trans (LeB.upd (.inl rfl))
  generalize upd (upd g dx (.raw (PySem.W.dictOf (PySem.W.putL "word" (PyData.keyHash c.w.params "word") (.str "word" tk) v1 []) (PySem.W.putN "word" [] 0)))) e (.raw (exObj t (some dx))) = g1 at *
  walk_at "tws"
  refine x_set W.ok X e1 d1 X.irr (by rfl) (show (2:Nat) ≤ 1000 by decide) fun tk2 => ?_
  walk_at "tws"
  refine h _ dx _ _ _ _ _ ?_ (by rw [upd_ne ne.symm]; exact e1) (upd_self ..) nd ne
  intro b ao q1 q2
  have hd : b ≠ dx := by rintro rfl; rw [nd] at q2; cases q2
  rw [upd_ne hd]; exact L1 _ _ q1 q2

theorem f_full (W : Facts c) (X : FX c) (hA : Room 3 A)
    (h : ∀ g' e t dx es m, Le g g' → g' e = some (.raw (exObj t (some dx))) → g' dx = some (.raw (PySem.W.dictOf es m)) → PySem.W.getL "size" es = some (some (.int n tok)) → g e = none → g dx = none → dx ≠ e → Q (.ref e) g') : TW c F A (call (.ref 58) [.int n tok]) g Q := by
  refine x_make W.ok X (W.fty 3 0 55 (by rfl)) (by rw [sizeLine_eq]; simp) fun e t ne nt net s hb hh => ?_
  refine f_code (Q := fun v g' => v = .none ∧ Q (.ref e) g') [("self", .ref e), ("size", .int n tok)] W.ok (W.mth 3 0 55 (by rfl)) (Room.under hA) (by rfl) (by decide +kernel) (by intros; rfl) (by rfl) (fun L qual cd A' he hA' => ?_) s hb hh
  have ge : gEx g t e [.int n tok] e = some (.raw (exObj t none)) := upd_self ..
  have L0 : Le g (gEx g t e [.int n tok]) := (Le.upd nt).trans (Le.upd (by rw [upd_ne net]; exact ne))
  clear hb hh
  generalize gEx g t e [.int n tok] = g0 at *
  walk_at "tws"
  refine m38 W.ok X ?_
  walk_at "tws"
  refine ⟨by walk_at "sz", fun l nl => ?_⟩
  have hle : e ≠ l := by rintro rfl; rw [ge] at nl; cases nl
  walk_at "tws"
  refine f_init35 W X hA' (show upd g0 l _ e = _ by rw [upd_ne hle]; exact ge) fun g2 dx h1 h2 t1 t2 m L2 e2 d2 nd2 nde => ?_
  walk_at "tws"
  refine x_set W.ok X e2 d2 X.size (by rfl) (show (3:Nat) ≤ 1000 by decide) fun tk2 => ?_
  walk_at "tws"
  have ndg : g dx = none := by
    cases q : g dx with
    | none => rfl
    | some ao =>
      have := L0 _ _ q
      have hdl : dx ≠ l := by rintro rfl; rw [this] at nl; cases nl
      rw [upd_ne hdl] at nd2; rw [this] at nd2; cases nd2
  refine ⟨rfl, h _ e t dx _ _ ?_ (by rw [upd_ne nde.symm]; exact e2) (upd_self ..) ?_ ne ndg nde⟩
  · intro b ao q
    have q0 := L0 _ _ q
    have hbd : b ≠ dx := by rintro rfl; rw [ndg] at q; cases q
    have hbl : b ≠ l := by rintro rfl; rw [q0] at nl; cases nl
    have hbe : b ≠ e := by rintro rfl; rw [ne] at q; cases q
    rw [upd_ne hbd]
    exact L2 b ao hbe (by rw [upd_ne hbl]; exact q0)
  · rfl
end
end
-- part H5
section
set_option maxRecDepth 100000
theorem fx_of {c : Cx} (ok : c.Ok) (hK : c.K = K c.w.params) : FX c := by
  have X := ok.kin
  rw [hK] at X
  refine { at58 := ⟨_, _, _, _, _, _, _, _, _, _, _, _, _, X 58 _ rfl⟩, cls := ?cls, init := by rw [hK]; kernel_rfl, sattr := by rw [hK]; kernel_rfl, gattr := by rw [hK]; kernel_rfl, gatt := by rw [hK]; kernel_rfl, word := by rw [hK]; kernel_rfl, irr := by rw [hK]; kernel_rfl, size := by rw [hK]; kernel_rfl, g38 := by rw [hK]; kernel_rfl, r38 := by rw [hK]; kernel_rfl, f38 := by rw [hK]; kernel_rfl }
  rw [hK]
  exact ⟨_, rfl, rfl, rfl⟩
end
-- part X5
section
set_option maxHeartbeats 1000000
set_option maxRecDepth 100000
section
variable {M : Model} {A : Around} {E : Value → Shared → Prop} {env : Env}
variable {nm q : Str} {C N : Addr} {bs bm : List Value} {hdct : Bool} {sn : List Str} {sub : List Value} {ab : Bool} {col : Option Bool} {dd : Option Addr} {k0 k1 k2 k3 k5 : Option Value} {newId : String}
theorem raiseStmt_own {s : Shared} {x : Sem Value} {Q : Flow → Shared → Prop} (hbase : bm.contains (.type "BaseException") = true) (hh : A.handled = none)
    (h : wpAny M A x (fun v s₁ => ∃ e t dx, v = .ref e ∧ s₁.heap.get? C = some (excClassObj nm q C N bs bm hdct sn sub ab col dd k0 k1 k2 k3 k5 newId) ∧
      s₁.heap.get? e = some { cls := .ref C, dict := some dx, data := .fields #[.ref t, .none, .none, .none, .bool false, .none] } ∧ E (.ref e) s₁) E s) :
    wpAny M A (raiseStmt env (some x) none) Q E s := by
  have hcB : (Value.ref C :: bm).contains (.type "BaseException") = true := by rw [List.contains_cons, hbase, Bool.or_true]
  unfold raiseStmt
  refine wpAny_bind (wpAny_mono h (fun v s₁ h₁ => ?_) fun _ _ x => x)
  obtain ⟨e, t, dx, rfl, hC, he, hE⟩ := h₁
  obtain ⟨hp, g, d, tk, os⟩ := s₁
  repeat (first | with_reducible refine wpAny_loadPart_at he ?_ | with_reducible refine wpAny_loadPart_at hC ?_ | (with_reducible refine wpAny_isSubtype_exc hC ?_; rw [hcB]) | wp_step)
  exact wpAny_raiseNew_none hh hE
end

/-- a statement that always raises -/
def XB {α : Type} (c : Cx) (env : Env) (A : Around) (t : Sem α) (ρ : Rho) (g : GH) (E : Value → Rho → GH → Prop) : Prop :=
  ∀ s : Shared, BaseOk c s.heap g → (Fm.fr env ρ).p s.heap g → Has c g s.heap →
    wpAny c.M A t (fun _ _ => False) (fun e s' => ∃ ρ' g', (Fm.fr env ρ').p s'.heap g' ∧ StepO c env s g s' g' ∧ E e ρ' g') s
section
variable {c : Cx} {env : Env} {A : Around} {ρ : Rho} {g : GH} {E : Value → Rho → GH → Prop}
theorem xb_seq {st : Stmt} {rest : List Stmt} (he : EnvOk c env) (h : BW c env A (exec st env) ρ g (fun f ρ' g' => f = .next ∧ XB c env A (execs rest env) ρ' g' E)) : XB c env A (execs (st :: rest) env) ρ g E := by
  intro s hb hf hh
  rw [execs_cons]
  refine wpAny_bind (wpAny_mono (h s hb hf hh) (fun f s₁ q => ?_) (fun _ _ q => q.elim))
  obtain ⟨ρ₁, g₁, hf₁, st, rfl, q⟩ := q
  exact wpAny_mono (q s₁ (hb.stepO he st) hf₁ st.has) (fun _ _ z => z.elim) (fun e s₂ ⟨ρ₂, g₂, a, b, d⟩ => ⟨ρ₂, g₂, a, st.trans b, d⟩)
theorem xb_head {st : Stmt} {rest : List Stmt} (h : XB c env A (exec st env) ρ g E) : XB c env A (execs (st :: rest) env) ρ g E := by
  intro s hb hf hh
  rw [execs_cons]
  exact wpAny_bind (wpAny_mono (h s hb hf hh) (fun _ _ z => z.elim) (fun _ _ z => z))
theorem xb_If {t : Expr} {b o : List Stmt} {pos : Pos} (he : EnvOk c env) (h : TW c (Fm.fr env ρ) A (isTrue t env (eval t env)) g (fun z g₁ => z = true ∧ XB c env A (execs b env) ρ g₁ E)) : XB c env A (exec (.If t b o pos) env) ρ g E := by
  intro s hb hf hh
  rw [exec_If]
  refine wpAny_bind (wpAny_standAt (wpAny_bind (wpAny_mono (h s hb hf hh) (fun z s₁ q => ?_) (fun _ _ q => q.elim))))
  obtain ⟨g₁, st, rfl, q⟩ := q
  exact wpAny_mono (q s₁ (hb.step st) ((Fm.fr env ρ).st _ _ _ _ st.out hf) st.has) (fun _ _ z => z.elim) (fun e s₂ ⟨ρ₂, g₂, a, b, d⟩ => ⟨ρ₂, g₂, a, st.o.trans b, d⟩)
theorem xb_Raise {x : Expr} {pos : Pos} (X : FX c) (hA : A.handled = none)
    (h : TW c (Fm.fr env ρ) A (eval x env) g (fun v g₁ => ∃ e t dx, v = .ref e ∧ g₁ e = some (.raw (exObj t (some dx))) ∧ E v ρ g₁)) : XB c env A (exec (.Raise (some x) none pos) env) ρ g E := by
  intro s hb hf hh
  obtain ⟨nm, q, bs, sn, sub, ab, col, dd, k0, k1, k2, k3, k5, e58⟩ := X.at58
  rw [arm_exec_Raise]
  refine wpAny_bind (wpAny_standAt ?_)
  simp only [evalOpt, Option.map]
  refine raiseStmt_own (C := 58) (N := 57) (bm := bm58) (nm := nm) (q := q) (bs := bs) (hdct := true) (sn := sn) (sub := sub) (ab := ab) (col := col) (dd := dd) (k0 := k0) (k1 := k1) (k2 := k2) (k3 := k3) (k5 := k5) (newId := "Exception.__new__") (by decide +kernel) hA ?_
  refine wpAny_bind (wpAny_mono (h s hb hf hh) (fun v s₁ z => wpAny_bind (wpAny_standAt (wpAny_pure ?_))) (fun _ _ z => z.elim))
  obtain ⟨g₁, st, e, t, dx, rfl, ge, hE⟩ := z
  exact ⟨e, t, dx, rfl, (hb.step st _ _ e58).1, st.has _ _ ge, ρ, g₁, (Fm.fr env ρ).st _ _ _ _ st.out hf, st.o, hE⟩
end
end
-- part X6
section
set_option maxHeartbeats 1000000
set_option maxRecDepth 100000
section
variable {c : Cx} {F : Fm} {A : Around} {g : GH} {R : Result → Shared → Prop}
theorem f_enter {st : Option Stmt} {a : Addr} {vals : List Value} {n : Nat} {name : Str} {params : Arguments} {body : List Stmt} {decs : List Expr} {ret : Option Expr} {tps : List TypeParam} {scope : Scope} {ts : Option Scope} {bind : Str} {pos : Pos} (binds : List (Str × Value))
    (hc : c.Ok) (hf : FnAt c st a) (hA : Room (n + 1) A) (hst : st = some (.FunctionDef name params body decs ret tps scope ts bind pos)) (hs : scopeOk scope = true)
    (hbind : ∀ nm qual doc pm an cd ct, bindArgs (fnOf nm qual params body scope .none .none doc pm an cd ct) ⟨vals, []⟩ = Pure.pure binds)
    (hkind : (binds.all fun y => scope.names.lookup y.1 == some .local || scope.names.lookup y.1 == some .cell) = true)
    (s : Shared) (hb : BaseOk c s.heap g) (hh : Has c g s.heap)
    (h : ∀ L qual cd env s₁, env = fenv scope L a qual cd → EnvOk c env → Room n (A.deeper env) → (∀ b, Fp env b → s.heap.get? b = none) → BaseOk c s₁.heap g → (Fm.fr env (bindR binds fun _ => none)).p s₁.heap g → Has c g s₁.heap →
      Step c s g s₁ g →
      wpAny c.M (A.deeper env) (execs body env) (fun f s' => R (.ok (.ret (retOf f))) s') (fun e s' => wpAny c.M (A.deeper env) (leaving env e) (fun _ s'' => R (.error e) s'') (fun e' s'' => R (.error e') s'') s') s₁) :
    codeAny c.M A (.call (.ref a) ⟨vals, []⟩) R s := by
  obtain ⟨o, nm, qual, doc, pm, an, cd, ct, ho, hd, hcd⟩ := hf.2 _ _ _ _ _ _ _ _ _ _ hst
  unfold scopeOk at hs
  simp only [Bool.and_eq_true, Bool.not_eq_true', beq_iff_eq, decide_eq_true_eq] at hs
  obtain ⟨⟨⟨⟨hk, hco⟩, hgen⟩, hnd⟩, hcl⟩ := hs
  have hB : ∀ b o, c.B.get? b = some o → s.heap.get? b = some o := fun b o e => (hb b o e).1
  have nodup : ∀ m, ((cellsFrom m scope.names []).map (·.1)).Nodup := fun m => by rw [cellsFrom_names scope.names m 0 [] [] rfl]; exact hnd
  have kinds : ∀ m x, x ∈ (cellsFrom m scope.names []).map (·.1) → scope.names.lookup x = some .cell := fun m x hx => by
    rw [cellsFrom_names scope.names m 0 [] [] rfl] at hx
    obtain ⟨p, hp, rfl⟩ := List.mem_map.mp hx
    exact beq_iff_eq.mp (List.all_eq_true.mp hcl p hp)
  refine codeAny_call_cells (fd := fnOf nm qual params body scope .none .none doc pm an cd ct) (body := body) (binds := binds) (by have := hA.1; lia) (hB _ _ ho) hd (hc.nolimit.keeps hB) (hcd.keeps hB) rfl (hbind ..) rfl ?_ ?_ hco hgen hk
  · exact kindsX hkind (s.heap.objs.size + 1)
  · intro s₁ x
    have eE : callEnvC (fnOf nm qual params body scope .none .none doc pm an cd ct) s.heap.objs.size a = fenv scope s.heap.objs.size a qual cd := rfl
    rw [eE] at x ⊢
    generalize hE : fenv scope s.heap.objs.size a qual cd = env at x ⊢
    have hL : env.locals = s.heap.objs.size := by rw [← hE]; rfl
    have hcells : env.cells = cellsFrom (s.heap.objs.size + 1) scope.names [] := by rw [← hE]; rfl
    have hsc : env.scope = scope := by rw [← hE]; rfl
    have fresh : ∀ b, Fp env b → s.heap.get? b = none := fun b ob => by
      rcases ob with rfl | ⟨y, hy⟩
      · rw [hL]; exact get_size_none _
      · exact get_ge_none (Nat.le_of_lt (by have := x.above y b hy; rw [hL] at this; exact this))
    have hkd : env.kindOf = fun y => scope.names.lookup y := by funext y; unfold Env.kindOf; rw [hsc]
    have ok : EnvOk c env := {
      ckind := fun y b hy => by
        rw [hkd]
        have : scope.names.lookup y = some .cell := kinds _ y (by rw [← hcells]; exact List.mem_map.mpr ⟨_, hy, rfl⟩)
        simp [this]
      cnod := by rw [hcells]; exact nodup _
      kind := by rw [hsc]; exact hk
      glob := by rw [← hE]; rfl
      blt := by rw [← hE]; rfl
      apart := x.apart
      locs := fun y b hy => Nat.ne_of_gt (x.above y b hy)
      base := fun b ob => by
        cases e : c.B.get? b with
        | none => rfl
        | some o' => have := hB _ _ e; rw [fresh b ob] at this; cases this }
    obtain ⟨⟨h₁, tk, rfl⟩, hns, hkeep, _⟩ := x.toInCall
    have hh₁ : Has c g h₁ := fun b ao e => RepH.keep (hh b ao e) fun o e => hkeep _ _ e
    have fr : FrameAt env (bindR binds fun _ => none) h₁ := {
      ns := ⟨_, hns, fun y v hy hv => (bindL_eq (kindOf := env.kindOf) hy binds _ _ rfl).trans hv⟩
      cells := fun y b e => by
        have := x.cell y b e
        have hy : env.kindOf y ≠ some .local := by
          rw [hkd]
          have : scope.names.lookup y = some .cell := kinds _ y (by rw [← hcells]; exact List.mem_map_of_mem (f := Prod.fst) (mem_of_lookup e))
          simp [this]
        rw [bindC_eq hy binds _ (fun _ => none) rfl] at this
        exact ⟨_, this, fun v hv => hv⟩ }
    have own : ∀ b, Fp env b → g b = none ∧ ∃ o, h₁.get? b = some o := fun b ob => by
      refine ⟨hh.fresh (fresh b ob), ?_⟩
      rcases ob with rfl | ⟨y, hy⟩
      · obtain ⟨o, _, _, e, _⟩ := hns; exact ⟨o, e⟩
      · have : y ∈ env.cells.map (·.1) := List.mem_map_of_mem (f := Prod.fst) hy
        obtain ⟨b', hb'⟩ := Option.isSome_iff_exists.mp (lookup_mem_fst this)
        have nd : (env.cells.map (·.1)).Nodup := by rw [hcells]; exact nodup _
        have : b' = b := Option.some.inj (hb'.symm.trans (lookup_of_nodup nd hy))
        subst this
        obtain ⟨o, e, _⟩ := x.cell y b' hb'
        exact ⟨o, e⟩
    have room : Room n (A.deeper env) := ⟨by show A.depth + 1 + n < _; have := hA.1; lia, by show A.units + 3 + 16 * n < _; have := hA.2.1; lia, hA.2.2⟩
    refine wpAny_mono (h s.heap.objs.size qual cd env { s with heap := h₁, toks := tk } hE.symm ok room fresh (fun b o e => ⟨hkeep _ _ (hB b o e), (hb b o e).2⟩) ⟨fr, own⟩ hh₁ ⟨hh₁, fun b o e n => ⟨hkeep _ _ e, n⟩, rfl, rfl⟩) (fun fl s' q => ?_) (fun _ _ q => q)
    cases fl <;> exact q

/-! frames of a run -/
theorem frs_of {env : Env} {ρ : Rho} {h : Heap} {outer : List Env} (he : EnvOk c env) (hf : env.frame = some env.locals) (fr : (Fm.fr env ρ).p h g) (x : Frs c outer h g) : Frs c (env :: outer) h g := by
  obtain ⟨⟨⟨m, hn, _⟩, _⟩, own⟩ := fr
  refine ⟨Heap.FunFrames.cons (by rw [he.kind]; decide) hf hn (he.base _ (.inl rfl)) x.fr, fun b m => ?_⟩
  unfold fsOf at m
  rw [List.filterMap_cons, hf] at m
  rcases List.mem_cons.mp m with rfl | m
  · exact (own _ (.inl rfl)).1
  · exact x.no b m
theorem Frs.nil {h : Heap} : Frs c [] h g := ⟨trivial, fun b m => by cases m⟩
theorem StepO.frs {env : Env} {s s' : Shared} {g' : GH} {l : List Env} (x : Frs c l s.heap g) (y : StepO c env s g s' g') (h : ∀ b ∈ fsOf l, ¬ Own env b) : Frs c l s'.heap g' :=
  ⟨funFrames_map (fun b m o e => ⟨o.slots, (y.out b o e (x.no b m) (h b m)).1⟩) x.fr, fun b m => by
    obtain ⟨_, o, e, _⟩ := x.fr.mem m
    exact (y.out b o e (x.no b m) (h b m)).2⟩
/-- what a step leaves when the frame it ran in is let go -/
theorem StepS.drop {env : Env} {s s₁ s₂ s₃ : Shared} {g₁ g₂ : GH} {outer : List Env} (hf : env.frame = some env.locals) (fresh : ∀ b, Fp env b → s.heap.get? b = none) (st : Step c s g s₁ g) (so : StepO c env s₁ g s₂ g₁) (ss : StepS c (fsOf (env :: outer)) s₂ g₁ s₃ g₂) : StepS c (fsOf outer) s g s₃ g₂ :=
  ⟨ss.has, fun b o e n => by
    obtain ⟨e1, n1⟩ := st.out b o e n
    have no : ¬ Fp env b := fun q => by rw [fresh b q] at e; cases e
    obtain ⟨e2, n2⟩ := so.out b o e1 n1 (fun q => no q.fp)
    obtain ⟨n3, k3, sl, e3⟩ := ss.out b o e2 n2
    refine ⟨n3, fun q => k3 fun m => ?_, sl, e3⟩
    unfold fsOf at m q
    rw [List.filterMap_cons, hf] at m
    rcases List.mem_cons.mp m with rfl | m
    · exact no (.inl rfl)
    · exact q m, ss.os.trans (so.os.trans st.os), ss.gens.trans (so.gens.trans st.gens)⟩

/-- a call whose body always raises -/
theorem f_raise {st : Option Stmt} {a : Addr} {vals : List Value} {n : Nat} {name : Str} {params : Arguments} {body : List Stmt} {decs : List Expr} {ret : Option Expr} {tps : List TypeParam} {scope : Scope} {ts : Option Scope} {bind : Str} {pos : Pos} {outer : List Env} {E : Addr → GH → Prop} (binds : List (Str × Value))
    (hc : c.Ok) (hf : FnAt c st a) (hA : Room (n + 1) A) (hst : st = some (.FunctionDef name params body decs ret tps scope ts bind pos)) (hs : scopeOk scope = true)
    (hbind : ∀ nm qual doc pm an cd ct, bindArgs (fnOf nm qual params body scope .none .none doc pm an cd ct) ⟨vals, []⟩ = Pure.pure binds)
    (hkind : (binds.all fun y => scope.names.lookup y.1 == some .local || scope.names.lookup y.1 == some .cell) = true)
    (hfr : A.frames = some outer)
    (h : ∀ L qual cd A', EnvOk c (fenv scope L a qual cd) → Room n A' → XB c (fenv scope L a qual cd) A' (execs body (fenv scope L a qual cd)) (bindR binds fun _ => none) g (fun v ρ' g' => ∃ e t dx, v = .ref e ∧ g' e = some (.raw (exObj t (some dx))) ∧
      ∀ T g'', (∀ b, b ≠ e → b ≠ T → g'' b = g' b) → g' T = none → EX g'' e 58 dx T .none → E e g'')) :
    ∀ s : Shared, BaseOk c s.heap g → Frs c outer s.heap g → Has c g s.heap → wpAny c.M A (call (.ref a) vals) (fun _ _ => False) (fun v s' => ∃ e g', v = .ref e ∧ StepS c (fsOf outer) s g s' g' ∧ E e g') s := fun s hb fr hh => by
  refine wpAny_call (f_enter binds hc hf hA hst hs hbind hkind s hb hh fun L qual cd env s₁ eE ok room fresh hb₁ hf₁ hh₁ st => ?_)
  subst eE
  refine wpAny_mono (h L qual cd _ ok room s₁ hb₁ hf₁ hh₁) (fun _ _ z => z.elim) (fun v s₂ z => ?_)
  obtain ⟨ρ₂, g₂, hf₂, so, e, t, dx, rfl, ge, hE⟩ := z
  have fr₁ : Frs c outer s₁.heap g := fr.step (st.sl (fs := []))
  have noOwn : ∀ b ∈ fsOf outer, ¬ Own (fenv scope L a qual cd) b := fun b m q => by
    obtain ⟨_, o, e, _⟩ := fr.fr.mem m
    rw [fresh b q.fp] at e; cases e
  have fr₂ := frs_of ok rfl hf₂ (so.frs fr₁ noOwn)
  refine leave_first (A := A.deeper _) (by show A.frames.map _ = _; rw [hfr]; rfl) fr₂ rfl so.has ge rfl rfl rfl rfl fun T g₃ s₃ ss gT k X => ?_
  exact ⟨e, g₃, rfl, StepS.drop rfl fresh st so ss, hE T g₃ k gT X⟩
end
end
-- part X7
section
set_option maxHeartbeats 1000000
set_option maxRecDepth 100000
/-- what slide or collect gives -/
noncomputable def SpecOf (b : Bool) (c : Cx) (g : GH) (x l lr : Addr) (lim : Int) (new rts : List Int) : Prop :=
  ∀ (F : Fm) (A : Around) (Q : Value → GH → Prop), Room 6 A →
    (∀ g' T xn ln D, LeB (fun b => b = l) g g' → g' T = some (.tup [.ref xn, .ref D]) → HO g' xn ln lim → IL g' ln new → IL g' D rts → g xn = none → g ln = none → g D = none → ln ≠ D → Q (.ref T) g') →
    TW c F A (call (.ref (if b then 322 else 296)) [.ref x, .ref lr]) g Q
section
variable {c : Cx} {F : Fm} {A : Around} {g : GH} {Q : Value → GH → Prop} {lim : Int} {x l lr : Addr} {new rts : List Int} {b : Bool}
theorem f_collected (W : Facts c) (hA : Room 7 A) (S : SpecOf b c g x l lr lim new rts) (hz : new.length ≤ 1000) (hn : ¬ lim < (new.length : Int))
    (h : ∀ g' T xn ln D, LeB (fun b => b = l) g g' → g' T = some (.tup [.ref xn, .ref D]) → HO g' xn ln lim → IL g' ln new → IL g' D rts → g xn = none → g ln = none → g D = none → ln ≠ D → Q (.ref T) g') :
    TW c F A (call (.ref 329) [.ref x, .ref lr, .bool b]) g Q := by
  refine f_callL [("heap", .ref x), ("roots", .ref lr), ("is_sliding", .bool b)] W.ok (W.fn 45 329 (by rfl)) hA (by rfl) (by decide +kernel) (by intros; rfl) (by rfl) ?_
  intro L qual cd A' ev he hA'
  walk_at "tws"
  cases b
  · walk_at "no"
    walk_at "tws"
    refine S _ _ _ (by walk_at "room") fun g1 T xn ln D L1 eT H1 hl1 hD1 nx nl nD ne => ?_
    walk_at "tws"
    walk_at "tup"
    walk_at "tws"
    refine h_meth (ij := (35, 2)) W H1 (by rfl) (by rfl) (by decide +kernel) ?_
    walk_at "tws"
    refine f_over W (by walk_at "room") H1 hl1 hz ?_
    walk_at "tws"
    refine ifF (by simpa using hn) ?_
    walk_at "tws"
    refine ⟨by walk_at "sz", fun T2 nT => ?_⟩
    have L2 : Le g1 (upd g1 T2 (.tup [.ref xn, .ref D])) := Le.upd nT
    exact h _ T2 xn ln D (L1.trans L2.leB) (upd_self ..) (H1.le L2) (hl1.le L2) (hD1.le L2) nx nl nD ne
  · walk_at "yes"
    walk_at "tws"
    refine S _ _ _ (by walk_at "room") fun g1 T xn ln D L1 eT H1 hl1 hD1 nx nl nD ne => ?_
    walk_at "tws"
    walk_at "tup"
    walk_at "tws"
    refine h_meth (ij := (35, 2)) W H1 (by rfl) (by rfl) (by decide +kernel) ?_
    walk_at "tws"
    refine f_over W (by walk_at "room") H1 hl1 hz ?_
    walk_at "tws"
    refine ifF (by simpa using hn) ?_
    walk_at "tws"
    refine ⟨by walk_at "sz", fun T2 nT => ?_⟩
    have L2 : Le g1 (upd g1 T2 (.tup [.ref xn, .ref D])) := Le.upd nT
    exact h _ T2 xn ln D (L1.trans L2.leB) (upd_self ..) (H1.le L2) (hl1.le L2) (hD1.le L2) nx nl nD ne

theorem f_collected_over {outer : List Env} {E : Addr → GH → Prop} (W : Facts c) (X : FX c) (hA : Room 7 A) (hfr : A.frames = some outer) (H : HO g x l lim) (hl : ∃ vs, g l = some (.lst vs)) (S : SpecOf b c g x l lr lim new rts) (hz : new.length ≤ 1000) (hn : lim < (new.length : Int))
    (h : ∀ e T dx es m tok g', LeB (fun b => b = l) g g' → (∀ b ao, b ≠ l → g b = some ao → b ≠ e ∧ b ≠ T) → EX g' e 58 dx T .none → g' dx = some (.raw (PySem.W.dictOf es m)) → PySem.W.getL "size" es = some (some (.int lim tok)) → E e g') :
    ∀ s : Shared, BaseOk c s.heap g → Frs c outer s.heap g → Has c g s.heap → wpAny c.M A (call (.ref 329) [.ref x, .ref lr, .bool b]) (fun _ _ => False) (fun v s' => ∃ e g', v = .ref e ∧ StepS c (fsOf outer) s g s' g' ∧ E e g') s := by
  refine f_raise [("heap", .ref x), ("roots", .ref lr), ("is_sliding", .bool b)] W.ok (W.fn 45 329 (by rfl)) hA (by rfl) (by decide +kernel) (by intros; rfl) (by rfl) hfr ?_
  intro L qual cd A' he hA'
  refine xb_seq he (b_AssignT he ?_)
  have key : ∀ {F : Fm} {Q' : Value → GH → Prop}, (∀ g' T xn ln D, LeB (fun b => b = l) g g' → g' T = some (.tup [.ref xn, .ref D]) → HO g' xn ln lim → IL g' ln new → IL g' D rts → g xn = none → g ln = none → g D = none → ln ≠ D → Q' (.ref T) g') →
      TW c F A' (call (.ref (if b then 322 else 296)) [.ref x, .ref lr]) g Q' := fun h' => S _ _ _ (by walk_at "room") h'
  walk_at "tws"
  cases b
  · walk_at "no"
    walk_at "tws"
    refine S _ _ _ (by walk_at "room") fun g1 T xn ln D L1 eT H1 hl1 hD1 nx nl nD ne => ?_
    walk_at "tws"
    walk_at "tup"
    walk_at "tws"
    refine ⟨rfl, xb_head (xb_If he ?_)⟩
    walk_at "tws"
    refine h_meth (ij := (35, 2)) W H1 (by rfl) (by rfl) (by decide +kernel) ?_
    walk_at "tws"
    refine f_over W (by walk_at "room") H1 hl1 hz ?_
    walk_at "tws"
    refine ⟨by simpa using hn, xb_head (xb_Raise X (Room.handled hA') ?_)⟩
    walk_at "tws"
    refine h_limit W (HO.leB H L1 (fun b q => by rw [q]; exact hl)) fun tok => ?_
    walk_at "tws"
    refine f_full W X (by walk_at "room") fun g2 e t dx es m L2 ge gd gl n1 n2 n3 => ?_
    refine ⟨e, t, dx, rfl, ge, e, t, dx, rfl, ge, fun T' g3 k nT X3 => h e T' dx es m tok g3 (fun b ao q1 q2 => ?_) (fun b ao q1 q2 => ⟨(by rintro rfl; have q3 := L1 _ _ q1 q2; rw [n1] at q3; cases q3), (by rintro rfl; have q4 := L2 _ _ (L1 _ _ q1 q2); rw [nT] at q4; cases q4)⟩) X3 ?_ gl⟩
    · have q3 := L1 _ _ q1 q2
      have q4 := L2 _ _ q3
      rw [k b (by rintro rfl; rw [n1] at q3; cases q3) (by rintro rfl; rw [nT] at q4; cases q4)]
      exact q4
    · rw [k dx n3 (by rintro rfl; rw [nT] at gd; cases gd)]
      exact gd
  · walk_at "yes"
    walk_at "tws"
    refine S _ _ _ (by walk_at "room") fun g1 T xn ln D L1 eT H1 hl1 hD1 nx nl nD ne => ?_
    walk_at "tws"
    walk_at "tup"
    walk_at "tws"
    refine ⟨rfl, xb_head (xb_If he ?_)⟩
    walk_at "tws"
    refine h_meth (ij := (35, 2)) W H1 (by rfl) (by rfl) (by decide +kernel) ?_
    walk_at "tws"
    refine f_over W (by walk_at "room") H1 hl1 hz ?_
    walk_at "tws"
    refine ⟨by simpa using hn, xb_head (xb_Raise X (Room.handled hA') ?_)⟩
    walk_at "tws"
    refine h_limit W (HO.leB H L1 (fun b q => by rw [q]; exact hl)) fun tok => ?_
    walk_at "tws"
    refine f_full W X (by walk_at "room") fun g2 e t dx es m L2 ge gd gl n1 n2 n3 => ?_
    refine ⟨e, t, dx, rfl, ge, e, t, dx, rfl, ge, fun T' g3 k nT X3 => h e T' dx es m tok g3 (fun b ao q1 q2 => ?_) (fun b ao q1 q2 => ⟨(by rintro rfl; have q3 := L1 _ _ q1 q2; rw [n1] at q3; cases q3), (by rintro rfl; have q4 := L2 _ _ (L1 _ _ q1 q2); rw [nT] at q4; cases q4)⟩) X3 ?_ gl⟩
    · have q3 := L1 _ _ q1 q2
      have q4 := L2 _ _ q3
      rw [k b (by rintro rfl; rw [n1] at q3; cases q3) (by rintro rfl; rw [nT] at q4; cases q4)]
      exact q4
    · rw [k dx n3 (by rintro rfl; rw [nT] at gd; cases gd)]
      exact gd
end
end
-- part X8
section
set_option maxHeartbeats 1000000
set_option maxRecDepth 100000
/-- a judgement of a kind of step -/
structure Jd (c : Cx) where
  P : Heap → GH → Prop
  R : Shared → GH → Shared → GH → Prop
  keep : ∀ {s g s' g'}, Step c s g s' g' → P s.heap g → P s'.heap g'
  pre : ∀ {s g s₁ g₁ s' g'}, Step c s g s₁ g₁ → R s₁ g₁ s' g' → R s g s' g'
  post : ∀ {s g s₁ g₁ s' g'}, R s g s₁ g₁ → Step c s₁ g₁ s' g' → R s g s' g'
noncomputable def GT {α : Type} {c : Cx} (J : Jd c) (F : Fm) (A : Around) (t : Sem α) (g : GH) (Q : α → Heap → GH → Prop) (E : Value → Heap → GH → Prop) : Prop :=
  ∀ s : Shared, BaseOk c s.heap g → F.p s.heap g → J.P s.heap g → Has c g s.heap → wpAny c.M A t (fun v s' => ∃ g', J.R s g s' g' ∧ Q v s'.heap g') (fun e s' => ∃ g', J.R s g s' g' ∧ E e s'.heap g') s
section
variable {α β : Type} {c : Cx} {J : Jd c} {F : Fm} {A : Around} {g : GH} {E : Value → Heap → GH → Prop}
theorem GT.bindT {t : Sem α} {k : α → Sem β} {Q : β → Heap → GH → Prop} (h : TW c F A t g (fun v g' => GT J F A (k v) g' Q E)) : GT J F A (t >>= k) g Q E := fun s hb hf hp hh =>
  wpAny_bind (wpAny_mono (h s hb hf hh) (fun v s₁ ⟨g₁, st, q⟩ => wpAny_mono (q s₁ (hb.step st) (F.st _ _ _ _ st.out hf) (J.keep st hp) st.has)
    (fun _ _ ⟨g', r, z⟩ => ⟨g', J.pre st r, z⟩) (fun _ _ ⟨g', r, z⟩ => ⟨g', J.pre st r, z⟩)) (fun _ _ z => z.elim))
theorem GT.holding {vs : List Value} {t : Sem α} {Q : α → Heap → GH → Prop} (h : GT J F A t g Q E) : GT J F A (PySem.holding vs t) g Q E := fun s hb hf hp hh => wpAny_holding (h s hb hf hp hh)
theorem GT.keep {vs : List Value} {t : Sem α} {Q : α → Heap → GH → Prop} (h : GT J F A t g Q E) : GT J F A (t.keep vs) g Q E := fun s hb hf hp hh => Calls.wpAny_keep (h s hb hf hp hh)
theorem g_callWith {pos : Pos} {f : Value} {first : List Value} {args : List (Bool × Sem Value)} {Q : Value → Heap → GH → Prop} (hk : Keeps1 c f) (hplain : args.any (·.1) = false)
    (h : TW c F A (evalArgs f true args []) g (fun a g' => GT J F A (call f (first ++ a.pos) a.kw) g' Q E)) : GT J F A (callWith pos f first args []) g Q E := by
  unfold callWith
  have hs : (args.any (·.1) || ([] : List (Option Str × Sem Value)).any (·.1.isNone)) = false := by rw [hplain]; rfl
  refine GT.bindT (TW.holding (h.mono fun a g₁ h₁ => GT.bindT (TW.standAt ?_)))
  simp only [hs]
  refine GT.bindT (hk F A g₁ _ fun k hk' => ?_)
  have tail : ∀ {t : Sem Value}, GT J F A t g₁ Q E → GT J F A (t >>= fun r => PySem.holding [r] PySem.point >>= fun _ => Pure.pure r) g₁ Q E :=
    fun ht s hb hf hp hh => wpAny_bind (wpAny_mono (ht s hb hf hp hh) (fun r s₂ hr => wpAny_bind (wpAny_holding (wpAny_point (wpAny_pure hr)))) (fun _ _ z => z))
  have marked (mk : Value) : GT J F A (callMarked mk f (first ++ a.pos) a.kw) g₁ Q E := by unfold callMarked; exact GT.keep h₁
  rcases hk' with rfl | rfl | rfl <;> dsimp only <;> first | exact tail h₁ | (split <;> first | exact tail h₁ | exact tail (marked _))
theorem g_CallN {env : Env} {x : Str} {np pos : Pos} {e : Expr} {rest : List Expr} {Q : Value → Heap → GH → Prop} (h : TW c F A (eval (.Name x np) env) g (fun f g₁ => Keeps1 c f ∧ TW c F A (spliced (backTo pos (starEach (e :: rest) env))) g₁ (fun vs g₂ => GT J F A (call f vs) g₂ Q E)))
    (hp : plainArgs (e :: rest) = true := by rfl) (he : starEach (e :: rest) env = (false, eval e env) :: starEach rest env := by rfl) : GT J F A (eval (.Call (.Name x np) (e :: rest) [] pos) env) g Q E := by
  show GT J F A (do callWith pos (← eval (.Name x np) env) [] (backTo pos (starEach (e :: rest) env)) (backToKw pos (keywordEach [] env))) g Q E
  exact GT.bindT (h.mono fun f g₁ ⟨hk, h₁⟩ => g_callWith hk (plain_backTo hp) (x_args h₁ he))
end

noncomputable def jO (c : Cx) (env : Env) : Jd c where
  P _ _ := True
  R := StepO c env
  keep _ _ := trivial
  pre st r := st.o.trans r
  post r st := r.trans st.o
noncomputable def jS (c : Cx) (l : List Env) : Jd c where
  P h g := Frs c l h g
  R := StepS c (fsOf l)
  keep st p := p.step (st.sl (fs := []))
  pre st r := st.sl.trans r
  post r st := r.trans st.sl
section
variable {c : Cx} {A : Around} {g : GH} {env : Env} {ρ : Rho}
theorem bw_of {α : Type} {t : Sem α} {Q : α → Rho → GH → Prop} (h : GT (jO c env) (Fm.fr env ρ) A t g (fun v h g' => ∃ ρ', (Fm.fr env ρ').p h g' ∧ Q v ρ' g') (fun _ _ _ => False)) : BW c env A t ρ g Q := fun s hb hf hh =>
  wpAny_mono (h s hb hf trivial hh) (fun v s' ⟨g', r, ρ', f, q⟩ => ⟨ρ', g', f, r, q⟩) (fun _ _ ⟨_, _, z⟩ => z.elim)
theorem bw_to {α : Type} {t : Sem α} {Q : α → Rho → GH → Prop} (h : BW c env A t ρ g Q) : GT (jO c env) (Fm.fr env ρ) A t g (fun v h g' => ∃ ρ', (Fm.fr env ρ').p h g' ∧ Q v ρ' g') (fun _ _ _ => False) := fun s hb hf _ hh =>
  wpAny_mono (h s hb hf hh) (fun v s' ⟨ρ', g', f, r, q⟩ => ⟨g', r, ρ', f, q⟩) (fun _ _ z => z.elim)
/-- a call that turns the caller's frame -/
theorem be_CallN {x : Str} {np pos : Pos} {e : Expr} {rest : List Expr} {Q : Value → Rho → GH → Prop} (h : TW c (Fm.fr env ρ) A (eval (.Name x np) env) g (fun f g₁ => Keeps1 c f ∧ TW c (Fm.fr env ρ) A (spliced (backTo pos (starEach (e :: rest) env))) g₁ (fun vs g₂ => BW c env A (call f vs) ρ g₂ Q)))
    (hp : plainArgs (e :: rest) = true := by rfl) (he : starEach (e :: rest) env = (false, eval e env) :: starEach rest env := by rfl) : BW c env A (eval (.Call (.Name x np) (e :: rest) [] pos) env) ρ g Q :=
  bw_of (g_CallN (h.mono fun f g₁ ⟨hk, h₁⟩ => ⟨hk, h₁.mono fun vs g₂ h₂ => bw_to h₂⟩) hp he)
theorem bb_AssignL {x : Str} {pos' pos : Pos} {e : Expr} {Q : Flow → Rho → GH → Prop} (he : EnvOk c env) (hl : env.kindOf x = some .local) (h : BW c env A (eval e env) ρ g (fun v ρ' g' => Q .next (setv ρ' x v) g')) (hs : swapsWith e (some (.Name x pos')) pos.line env = Pure.pure false := by rfl) :
    BW c env A (exec (.Assign [.Name x pos'] e pos) env) ρ g Q := by
  rw [exec_Assign_Name env x pos' e pos hs]
  exact BW.bind he (BW.standAt (BW.bind he (h.mono fun v ρ' g' q => BW.bind he (BW.standAt (BW.bind he ((BW.bindName (BW.store_local he hl q)).mono fun _ _ _ z => BW.pure z))))))
/-- an assignment whose value raises -/
theorem g_AssignT {J : Jd c} {E : Value → Heap → GH → Prop} {elts : List Expr} {k : Nat} {tpos pos : Pos} {e : Expr} {F : Fm} (h : GT J F A (eval e env) g (fun _ _ _ => False) E)
    (hs : swapsWithSole [.Tuple elts k tpos] e pos.line env = Pure.pure false := by rfl) (hw : swappedStores [.Tuple elts k tpos] e env = Pure.pure none := by rfl) : GT J F A (exec (.Assign [.Tuple elts k tpos] e pos) env) g (fun _ _ _ => False) E := fun s hb hf hp hh => by
  rw [exec_Assign_arm]
  refine wpAny_bind (wpAny_standAt ?_)
  rw [hs]
  refine wpAny_bind (wpAny_pure ?_)
  rw [if_neg (by decide)]
  exact wpAny_bind (wpAny_mono (h s hb hf hp hh) (fun _ _ ⟨_, _, z⟩ => z.elim) (fun _ _ z => z))
theorem b_Try {body orelse : List Stmt} {h₀ : ExceptHandler} {hs : List ExceptHandler} {pos : Pos} {Q : Flow → Rho → GH → Prop} (he : EnvOk c env)
    (h : BW c env A (execs body env) ρ g (fun f ρ' g' => match f with | .next => BW c env A (execs orelse env) ρ' g' Q | f => Q f ρ' g')) : BW c env A (exec (.Try body (h₀ :: hs) orelse [] pos) env) ρ g Q := fun s hb hf hh =>
  wpAny_Try_except (wpAny_mono (h s hb hf hh) (fun f s₁ ⟨ρ', g', a, b, q⟩ => by
    cases f <;> first | exact ⟨ρ', g', a, b, q⟩ | exact wpAny_mono (q s₁ (hb.stepO he b) a b.has) (fun f s₂ ⟨ρ'', g'', a', b', q'⟩ => ⟨ρ'', g'', a', b.trans b', q'⟩) (fun _ _ z => z)) (fun _ _ z => z.elim))
end
end
-- part X9
section
set_option maxHeartbeats 1000000
set_option maxRecDepth 100000
structure StepX (c : Cx) (env : Env) (fs : List Addr) (s : Shared) (g : GH) (s' : Shared) (g' : GH) : Prop where
  has : Has c g' s'.heap
  out : ∀ b o, s.heap.get? b = some o → g b = none → ¬ Fp env b → g' b = none ∧ (b ∉ fs → s'.heap.get? b = some o) ∧ ∃ sl, s'.heap.get? b = some { o with slots := sl }
  os : s'.os = s.os
  gens : s'.gens = s.gens
section
variable {c : Cx} {env : Env} {fs : List Addr} {s s' s'' : Shared} {g g' g'' : GH} {ρ : Rho} {outer : List Env}
theorem StepS.x (x : StepS c fs s g s' g') : StepX c env fs s g s' g' := ⟨x.has, fun b o e n _ => x.out b o e n, x.os, x.gens⟩
theorem StepO.x (x : StepO c env s g s' g') : StepX c env fs s g s' g' := ⟨x.has, fun b o e n h => have q := x.out b o e n (fun z => h z.fp); ⟨q.2, fun _ => q.1, o.slots, q.1⟩, x.os, x.gens⟩
theorem StepX.trans (x : StepX c env fs s g s' g') (y : StepX c env fs s' g' s'' g'') : StepX c env fs s g s'' g'' :=
  ⟨y.has, fun b o e n h => by
    obtain ⟨n1, k1, sl1, e1⟩ := x.out b o e n h
    obtain ⟨n2, k2, sl2, e2⟩ := y.out b _ e1 n1 h
    exact ⟨n2, fun q => (y.out b o (k1 q) n1 h).2.1 q, sl2, e2⟩, y.os.trans x.os, y.gens.trans x.gens⟩
theorem BaseOk.stepX (he : EnvOk c env) (hb : BaseOk c s.heap g) (x : StepX c env fs s g s' g') (h : ∀ b ∈ fs, c.B.get? b = none) : BaseOk c s'.heap g' := fun b o e => by
  have nf : ¬ Fp env b := fun q => by have := he.base b q; rw [this] at e; cases e
  have q := x.out b o (hb b o e).1 (hb b o e).2 nf
  exact ⟨q.2.1 (fun m => by rw [h b m] at e; cases e), q.1⟩
theorem fr_slots (x : StepS c fs s g s' g') (h : (Fm.fr env ρ).p s.heap g) : (Fm.fr env ρ).p s'.heap g' := by
  obtain ⟨⟨⟨m, ⟨o, es, ep, ho, hd, r⟩, hm⟩, hc⟩, own⟩ := h
  refine ⟨⟨⟨m, ?_, hm⟩, fun y a e => ?_⟩, fun b ob => ?_⟩
  · obtain ⟨_, _, sl, e⟩ := x.out _ o ho (own _ (.inl rfl)).1
    exact ⟨_, es, ep, e, hd, r⟩
  · obtain ⟨v, ⟨oc, h1, h2⟩, h3⟩ := hc y a e
    obtain ⟨_, _, sl, e'⟩ := x.out _ oc h1 (own _ (.inr ⟨y, mem_of_lookup e⟩)).1
    exact ⟨v, ⟨_, e', h2⟩, h3⟩
  · obtain ⟨o, e⟩ := (own b ob).2
    obtain ⟨n1, _, sl, e'⟩ := x.out b o e (own b ob).1
    exact ⟨n1, _, e'⟩
theorem StepX.drop {s₁ s₂ : Shared} {g₂ : GH} (hf : env.frame = some env.locals) (fresh : ∀ b, Fp env b → s.heap.get? b = none) (st : Step c s g s₁ g) (sx : StepX c env (fsOf (env :: outer)) s₁ g s₂ g₂) : StepS c (fsOf outer) s g s₂ g₂ :=
  ⟨sx.has, fun b o e n => by
    obtain ⟨e1, n1⟩ := st.out b o e n
    have no : ¬ Fp env b := fun q => by rw [fresh b q] at e; cases e
    obtain ⟨n2, k2, sl, e2⟩ := sx.out b o e1 n1 no
    refine ⟨n2, fun q => k2 fun m => ?_, sl, e2⟩
    unfold fsOf at m q
    rw [List.filterMap_cons, hf] at m
    rcases List.mem_cons.mp m with rfl | m
    · exact no (.inl rfl)
    · exact q m, sx.os.trans st.os, sx.gens.trans st.gens⟩
end
section
variable {c : Cx} {F : Fm} {A : Around} {g : GH} {Q : Value → GH → Prop} {lim : Int} {x l lr : Addr} {new rts : List Int} {b : Bool}
theorem f_kept (W : Facts c) (hA : Room 8 A) (S : SpecOf b c g x l lr lim new rts) (hz : new.length ≤ 1000) (hrz : rts.length ≤ 1000) (hn : ¬ lim < (new.length : Int))
    (h : ∀ g' D t a1 a2, LeB (fun b => b = l) g g' → g' D = some (.lst [.str "kept" t, .ref a1, .ref a2]) → IL g' a1 new → IL g' a2 rts → Q (.ref D) g') :
    TW c F A (call (.ref 391) [.ref x, .ref lr, .bool b]) g Q := by
  refine f_callL [("own", .ref x), ("words", .ref lr), ("is_sliding", .bool b)] W.ok (W.fn 56 391 (by rfl)) hA (by rfl) (by decide +kernel) (by intros; rfl) (by rfl) ?_
  intro L qual cd A' ev he hA'
  refine b_cons he (b_Try he ?_)
  walk_at "tws"
  refine f_collected W (by walk_at "room") S hz hn fun g1 T xn ln D L1 eT H1 hl1 hD1 nx nl nD ne => ?_
  walk_at "tws"
  walk_at "tup"
  walk_at "tws"
  refine h_cells W H1 ?_
  walk_at "tws"
  obtain ⟨vl, el, rl⟩ := hl1
  obtain ⟨vd, ed, rd⟩ := hD1
  have l1 := ia_len rl
  have l2 := ia_len rd
  refine o_listOf (LIn.of el) (by rw [sizeLine_eq]; lia) fun a na => ?_
  have L2 : Le g1 (upd g1 a (.lst vl)) := Le.upd na
  have e1 : (upd g1 a (.lst vl)) a = some (.lst vl) := upd_self ..
  generalize upd g1 a (.lst vl) = g2 at *
  walk_at "tws"
  refine o_listOf (LIn.of (L2 _ _ ed)) (by rw [sizeLine_eq]; lia) fun a2 na2 => ?_
  have L3 : Le g2 (upd g2 a2 (.lst vd)) := Le.upd na2
  have e2 : (upd g2 a2 (.lst vd)) a2 = some (.lst vd) := upd_self ..
  generalize upd g2 a2 (.lst vd) = g3 at *
  walk_at "tws"
  refine ⟨by walk_at "sz", fun K nK => ?_⟩
  have L4 : ∀ ao, Le g3 (upd g3 K ao) := fun _ => Le.upd nK
  exact h _ K _ a a2 (L1.trans ((L2.trans (L3.trans (L4 _))).leB)) (upd_self ..) ⟨vl, L4 _ _ _ (L3 _ _ e1), rl⟩ ⟨vd, L4 _ _ _ e2, rd⟩
end
end
-- part X10
section
set_option maxHeartbeats 1000000
set_option maxRecDepth 100000
section
variable {c : Cx} {F : Fm} {A : Around} {g : GH} {Q : Value → GH → Prop} {lim : Int} {x l lr : Addr} {new rts : List Int} {b : Bool}
theorem StepX.sameBut {env : Env} {fs : List Addr} {s : Shared} {h' : Heap} {tk : Nat} (no : g env.locals = none) (hh : Has c g s.heap) (sb : Heap.SameBut env.locals s.heap h') : StepX c env fs s g { s with heap := h', toks := tk } g :=
  ⟨fun b ao z => RepH.keep (hh b ao z) fun o e => (sb.2 b (fun ez => by rw [ez, no] at z; cases z)).trans e, fun b o e n nf => by
    have k : h'.get? b = some o := (sb.2 b (fun z => nf (.inl z))).trans e
    exact ⟨n, fun _ => k, o.slots, k⟩, rfl, rfl⟩
theorem f_kept_over {outer : List Env} (W : Facts c) (X : FX c) (hA : Room 8 A) (hfr : A.frames = some outer) (H : HO g x l lim) (hl : ∃ vs, g l = some (.lst vs)) (S : SpecOf b c g x l lr lim new rts) (hz : new.length ≤ 1000) (hn : lim < (new.length : Int))
    (h : ∀ g' D t1 t2, LeB (fun b => b = l) g g' → g' D = some (.lst [.str "full" t1, .int lim t2]) → Q (.ref D) g') :
    ∀ s : Shared, BaseOk c s.heap g → Frs c outer s.heap g → Has c g s.heap → wpAny c.M A (call (.ref 391) [.ref x, .ref lr, .bool b]) (fun v s' => ∃ g', StepS c (fsOf outer) s g s' g' ∧ Q v g') (fun _ _ => False) s := fun s hb fr hh => by
  refine wpAny_call (f_enter (n := 7) [("own", .ref x), ("words", .ref lr), ("is_sliding", .bool b)] W.ok (W.fn 56 391 (by rfl)) hA (by rfl) (by decide +kernel) (by intros; rfl) (by rfl) s hb hh fun L qual cd env s₁ eE he room fresh hb₁ hf₁ hh₁ st => ?_)
  have fr₁ := frs_of he (by rw [eE]; rfl) hf₁ (fr.step (st.sl (fs := [])))
  have hfrm : env.frame = some env.locals := by rw [eE]; rfl
  have hfr' : (A.deeper env).frames = some (env :: outer) := by show A.frames.map _ = _; rw [hfr]; rfl
  generalize hAd : A.deeper env = A' at *
  rw [execs_cons]
  refine wpAny_bind (wpAny_Try_except ?_)
  refine wq fun Q1 E1 hQ1 hE1 => ?_
  rw [execs_cons]
  subst eE
  refine wpAny_bind (wpAny_mono ((g_AssignT (J := jS c (_ :: outer)) (F := Fm.fr _ (bindR [("own", .ref x), ("words", .ref lr), ("is_sliding", .bool b)] fun _ => none)) (g := g)
    (E := fun v _ g' => ∃ e T dx es m tok, v = .ref e ∧ LeB (fun b => b = l) g g' ∧ (∀ b ao, b ≠ l → g b = some ao → b ≠ e ∧ b ≠ T) ∧ EX g' e 58 dx T .none ∧ g' dx = some (.raw (PySem.W.dictOf es m)) ∧ PySem.W.getL "size" es = some (some (.int lim tok))) (g_CallN ?call)) s₁ hb₁ hf₁ fr₁ hh₁) (fun _ _ ⟨_, _, z⟩ => z.elim) ?_)
  case call =>
    walk_at "tws"
    exact fun s₂ hb₂ hf₂ hp₂ hh₂ => wpAny_mono (f_collected_over W X (by walk_at "room") hfr' H hl S hz hn (E := fun e g' => ∃ T dx es m tok, LeB (fun b => b = l) g g' ∧ (∀ b ao, b ≠ l → g b = some ao → b ≠ e ∧ b ≠ T) ∧ EX g' e 58 dx T .none ∧ g' dx = some (.raw (PySem.W.dictOf es m)) ∧ PySem.W.getL "size" es = some (some (.int lim tok)))
      (fun e T dx es m tok g' h1 h2 h3 h4 h5 => ⟨T, dx, es, m, tok, h1, h2, h3, h4, h5⟩) s₂ hb₂ hp₂ hh₂) (fun _ _ z => z.elim) (fun v s' ⟨e, g', z1, z2, T, dx, es, m, tok, z3⟩ => ⟨g', z2, e, T, dx, es, m, tok, z1, z3⟩)
  rintro v s₂ ⟨g₂, st₂, e, T, dx, es, m, tok, rfl, L2, ne2, X2, gd, gl⟩
  have fr₂ := fr₁.step st₂
  have hf₂ := fr_slots st₂ hf₁
  refine hE1 _ _ ?_
  refine wq fun Q2 E2 hQ2 hE2 => ?_
  refine note_more hfr' fr₂ hfrm st₂.has X2 fun T' g₃ s₃ st₃ nT' k₃ X3 => ?_
  refine hQ2 _ _ ?_
  refine wq fun Q3 E3 hQ3 hE3 => ?_
  refine flight_none st₃.has X3 fun g₄ s₄ st₄ k₄ X4 => ?_
  have st24 := st₃.trans (st₄.sl (fs := fsOf (_ :: outer)))
  have fr₄ := fr₂.step st24
  have hf₄ := fr_slots st24 hf₂
  have hb₄ := (hb₁.stepS st₂ fr₁.base).stepS st24 fr₂.base
  have ned : dx ≠ e ∧ dx ≠ T := by
    obtain ⟨⟨oe, vs, oT, ts, q1, q2, q3, q4, q5, q6, q7, q8⟩, q9⟩ := X2
    constructor
    · rintro rfl; rw [gd] at q1; cases q1; cases q4
    · rintro rfl; rw [gd] at q6; cases q6; cases q7
  have k24 : ∀ b ao, b ≠ e → b ≠ T → g₂ b = some ao → g₄ b = some ao := fun b ao n1 n2 q => by
    have n3 : b ≠ T' := by rintro rfl; rw [nT'] at q; cases q
    rw [k₄ b n3, k₃ b n1 n2 n3]; exact q
  have gd4 := k24 _ _ ned.1 ned.2 gd
  have L4 : LeB (fun b => b = l) g g₄ := fun b ao n q => k24 b ao (ne2 b ao n q).1 (ne2 b ao n q).2 (L2 b ao n q)
  refine hQ3 _ _ ?_
  refine wq fun Q4 E4 hQ4 hE4 => ?_
  refine wpAny_handleBy_cons (codeAny_handlers_test ?_) (by intro q; cases q)
  refine wpAny_mono ((show TW c (Fm.fr _ _) (A'.mark (some (.ref e))) _ g₄ (fun v g' => v = .ref 58 ∧ g' = g₄) from by walk_at "tw"; exact ⟨rfl, rfl⟩) s₄ hb₄ hf₄ st₄.has) ?_ (fun _ _ z => z.elim)
  rintro v ⟨h5, gs5, d5, t5, os5⟩ ⟨g', st5, rfl, rfl⟩
  obtain ⟨nm, q, bs, sn, sub, ab, col, dd, k0, k1, k2, k3, k5, e58⟩ := X.at58
  have hb₅ := hb₄.step st5
  obtain ⟨oe, vs, oT, ts, q1, q2, q3, q4, q5, q6, q7, q8⟩ := X4.ex
  refine wpAny_excMatches_sub_self (hb₅ _ _ e58).1 (st5.has e _ q1) q2 (by decide +kernel) (codeAny_handlers_suite_as ?_)
  refine flight_none st5.has X4 fun g₆ s₆ st₆ k₆ X6 => ?_
  have hb₆ := hb₅.step st₆
  have hf₆ := (Fm.fr _ _).st _ _ _ _ st₆.out ((Fm.fr _ _).st _ _ _ _ st5.out hf₄)
  refine wpAny_mono ((BW.store_local (c := c) (A := A'.mark (some (.ref e))) he (by rfl) (U := fun _ ρ' g' => ρ' = setv _ _ _ ∧ g' = g₆) ⟨rfl, rfl⟩) s₆ hb₆ hf₆ st₆.has) ?_ (fun _ _ z => z.elim)
  rintro _ s₇ ⟨ρ₇, g₇, hf₇, so₇, rfl, rfl⟩
  have hb₇ := hb₆.stepO he so₇
  have nT2 : ∀ b ao, g₂ b = some ao → b ≠ T' := fun b ao z => by rintro rfl; rw [nT'] at z; cases z
  have gd6 := (k₆ dx (nT2 _ _ gd)).trans gd4
  have L6 : LeB (fun b => b = l) g g₇ := fun b ao n z => (k₆ b (nT2 _ _ (L2 b ao n z))).trans (L4 b ao n z)
  obtain ⟨oe6, vs6, oT6, ts6, r1, r2, r3, r4, r5, r6, r7, r8⟩ := X6.ex
  refine wpAny_mono ((show BW c _ (A'.mark (some (.ref e))) _ _ g₇ (fun f ρ' g' => ∃ D t1 t2, f = .ret (.ref D) ∧ g' D = some (.lst [.str "full" t1, .int lim t2]) ∧ Le g₇ g') from ?bd) s₇ hb₇ hf₇ so₇.has) ?_ (fun _ _ z => z.elim)
  case bd =>
    walk_at "tws"
    refine x_get W.ok X r1 r2 (by unfold notCls; rw [r4]) r3 gd6 X.size gl (by rfl) ?_
    walk_at "tws"
    refine ⟨by walk_at "sz", fun K nK => ?_⟩
    exact ⟨K, _, _, rfl, upd_self .., Le.upd nK⟩
  rintro f s₈ ⟨ρ₈, g₈, hf₈, so₈, D, t1, t2, rfl, eD, L8⟩
  obtain ⟨m₈, hn₈, _⟩ := hf₈.1.ns
  refine wpAny_nameGoes (by rfl) hn₈ (by rfl) fun h' m' _ sb => ?_
  have no₈ := (hf₈.2 _ (.inl rfl)).1
  refine hQ4 _ _ ?_
  refine wpAny_pure ?_
  exact ⟨g₈, StepX.drop hfrm fresh st (st₂.x.trans (st24.x.trans (st5.o.x.trans (st₆.o.x.trans (so₇.x.trans (so₈.x.trans (StepX.sameBut no₈ so₈.has sb))))))), h g₈ D t1 t2 (L6.trans L8.leB) eD⟩
end
end
-- part F6
section
set_option maxHeartbeats 1000000
section
variable {c : Cx} {F : Fm} {A : Around} {g : GH} {Q : Value → GH → Prop} {w n k lim limn a : Int} {t u : Tok} {x l d xn ln : Addr} {old new old' new' : List Int} {env : Env}
theorem f_moved {w' : Int} (W : Facts c) (hA : Room 2 A) (H : HO g x l lim) (hl : IL g l old) (H2 : HO g xn ln limn) (hl2 : IL g ln new) (hne : l ≠ ln) (hm : mw old new w = some (old', new', w'))
    (h : ∀ t g', LeB (fun b => b = l ∨ b = ln) g g' → IL g' l old' → IL g' ln new' → Q (.int w' t) g') : TW c F A (call (.ref 291) [.ref x, .ref xn, .int w t]) g Q := by
  refine f_callL [("old", .ref x), ("new", .ref xn), ("word", .int w t)] W.ok (W.fn 39 291 (by rfl)) hA (by rfl) (by decide +kernel) (by intros; rfl) (by rfl) ?_
  intro L qual cd A' ev he hA'
  have hl' := hl
  have hl2' := hl2
  obtain ⟨vs, e, r⟩ := hl'
  obtain ⟨vs2, e2, r2⟩ := hl2'
  have lr := ia_len r
  have lr2 := ia_len r2
  unfold mw at hm
  walk_at "tws"
  split at hm
  · rename_i hw
    split at hm
    · rename_i h0
      split at hm
      · cases hm
      · rename_i hd ho
        obtain ⟨t', ev⟩ := ia_get r ho
        have lt := (List.getElem?_eq_some_iff.mp ho).1
        walk_at "no"
        walk_at "tws"
        refine h_cells W H ?_
        walk_at "tws"
        refine s_list (LIn.of e) (o_getL (LIn.of e) h0.1 (by lia) ev ?_)
        walk_at "tws"
        split at hm
        · rename_i h6
          cases hm
          walk_at "yes"
          walk_at "tws"
          exact h _ _ (LeB.refl _ _) hl hl2
        · rename_i h6
          split at hm
          · rename_i hb
            cases hm
            walk_at "no"
            walk_at "tws"
            refine h_cells W H2 ?_
            walk_at "tws"
            refine o_len (LIn.of e2) (by lia) fun t3 => ?_
            walk_at "tws"
            refine h_cells W H2 ?_
            walk_at "tws"
            refine x_methL PySem.F.slot_list_extend (by rfl) e2 ?_
            walk_at "tws"
            refine h_cells W H ?_
            walk_at "tws"
            refine ⟨l, vs, _, _, rfl, LIn.of e, (by rw [sizeLine_eq]; lia), .int _ _, .int _ _, fun d nd => ?_⟩
            have sl := kmk_run r (x := w / 8) (y := w / 8 + 1 + hd / 8 / 16) h0.1 (by lia)
            have ls := ia_len sl
            have hz : ((old.drop (w / 8).toNat).take (min (w / 8 + 1 + hd / 8 / 16).toNat old.length - (w / 8).toNat)).length ≤ old.length := by
              rw [List.length_take, List.length_drop]; lia
            generalize (slicePick vs.toArray (some (w / 8)) (some (w / 8 + 1 + hd / 8 / 16)) none).toList = sv at *
            generalize (old.drop (w / 8).toNat).take (min (w / 8 + 1 + hd / 8 / 16).toNat old.length - (w / 8).toNat) = sn at *
            have L1 : Le g (upd g d (.lst sv)) := Le.upd nd
            have ed : (upd g d (.lst sv)) d = some (.lst sv) := upd_self ..
            have nl : d ≠ l := by rintro rfl; rw [nd] at e; cases e
            have nl2 : d ≠ ln := by rintro rfl; rw [nd] at e2; cases e2
            generalize upd g d (.lst sv) = g1 at *
            have e3 := L1 _ _ e2
            walk_at "tws"
            refine o_extend e3 ed (by rw [sizeLine_eq]; lia) ?_
            have H3 := (H.le L1).upd (ws := vs2 ++ sv) e3
            have e4 : upd g1 ln (.lst (vs2 ++ sv)) l = some (.lst vs) := by rw [upd_ne hne]; exact L1 _ _ e
            have L2 : LeB (fun b => b = l ∨ b = ln) g (upd g1 ln (.lst (vs2 ++ sv))) := (L1.leB).trans (LeB.upd (.inl (.inr rfl)))
            have I4 : IL (upd g1 ln (.lst (vs2 ++ sv))) ln (new ++ sn) := IL.self (ia_app r2 sl)
            generalize upd g1 ln (.lst (vs2 ++ sv)) = g2 at *
            walk_at "tws"
            refine h_cells W H3 ?_
            walk_at "tws"
            refine o_setL e4 h0.1 (by lia) (by lia) ?_
            walk_at "tws"
            rw [lr2]
            exact h _ _ (L2.trans (LeB.upd (.inl (.inl rfl)))) (IL.self (ia_set r _ _ _)) (I4.upd (Ne.symm hne))
          · cases hm
    · cases hm
  · rename_i hw
    cases hm
    walk_at "yes"
    walk_at "tws"
    exact h _ _ (LeB.refl _ _) hl hl2

theorem f_collect {lr fuel : _} {roots rts : List Int} (W : Facts c) (hA : Room 3 A) (H : HO g x l lim) (hl : IL g l old) (hr : IL g lr roots) (hne : lr ≠ l) (hm : collectM fuel old roots = some (old', new', rts))
    (hrz : roots.length ≤ 800)
    (h : ∀ g' T xn ln D, LeB (fun b => b = l) g g' → g' T = some (.tup [.ref xn, .ref D]) → HO g' xn ln lim → IL g' ln new' → IL g' D rts → g xn = none → g ln = none → g D = none → ln ≠ D → Q (.ref T) g') :
    TW c F A (call (.ref 296) [.ref x, .ref lr]) g Q := by
  refine f_callL [("heap", .ref x), ("roots", .ref lr)] W.ok (W.fn 40 296 (by rfl)) hA (by rfl) (by decide +kernel) (by intros; rfl) (by rfl) ?_
  intro L qual cd A' ev he hA'
  unfold collectM at hm
  split at hm
  · cases hm
  rename_i o1 n1 r1 hall
  split at hm
  · cases hm
  rename_i o2 n2 hscan
  cases hm
  walk_at "tws"
  refine h_limit W H fun t => ?_
  walk_at "tws"
  refine f_Heap W (by walk_at "room") fun xn ln g1 L1 Hn In nx nl nxl => ?_
  walk_at "tws"
  obtain ⟨vo, eo, ro⟩ := hl
  obtain ⟨vr, er, rr⟩ := hr
  obtain ⟨vn, en, rn⟩ := In
  have nlr : lr ≠ ln := by rintro rfl; rw [nl] at er; cases er
  have nll : l ≠ ln := by rintro rfl; rw [nl] at eo; cases eo
  have er1 := L1 _ _ er
  have eo1 := L1 _ _ eo
  have H1 := H.le L1
  have lrr := ia_len rr
  have hw1 : ∀ b, (b = l ∨ b = ln) → ∃ vs, g1 b = some (.lst vs) := fun b q => by rcases q with rfl | rfl <;> exact ⟨_, ‹_›⟩
  have nW : ¬ (lr = l ∨ lr = ln) := fun q => q.elim hne nlr
  refine comp_q (fun i ys g' => LeB (fun b => b = l ∨ b = ln) g1 g' ∧ ∃ o nn rs rest, IL g' l o ∧ IL g' ln nn ∧ IntsAre ys rs ∧ mwAll o nn (roots.drop i) = some (o1, n1, rest) ∧ rs ++ rest = rts) (iter_list (Room.handled hA') er1) (by rw [lrr, sizeLine_eq]; lia) (fun i ys g' q => q.1 _ _ nW er1) (⟨LeB.refl _ _, old, [], [], rts, ⟨vo, eo1, ro⟩, ⟨vn, en, rn⟩, .nil, hall, rfl⟩) ?_ ?_
  · rintro i ys v g3 g4 Kb kn hi hys ⟨L3, o, nn, rs, rest, Io, In, hrs, hmw, hcat⟩ ⟨hv, rfl⟩
    have hi' : i < roots.length := by lia
    rw [List.drop_eq_getElem_cons hi'] at hmw
    obtain ⟨tv, hv'⟩ := ia_get rr (List.getElem?_eq_getElem hi')
    rw [hv] at hv'
    cases hv'
    generalize roots[i] = w at *
    unfold mwAll at hmw
    split at hmw
    · cases hmw
    rename_i o' n' w' hone
    split at hmw
    · cases hmw
    rename_i o'' n'' r'' hrest
    cases hmw
    intro C hC
    have H3 := H1.leB L3 hw1
    have Hn3 := Hn.leB L3 hw1
    walk_at "tws"
    refine f_moved W (by walk_at "room") H3 Io Hn3 In nll hone fun t g5 L5 Io5 In5 => ?_
    exact kn _ _ ⟨L3.trans L5, o', n', rs ++ [w'], r'', Io5, In5, ia_app hrs (ia_one _ _), hrest, by rw [List.append_assoc]; exact hcat⟩
  · rintro ys g3 D hys ⟨L3, o, nn, rs, rest, Io, In, hrs, hmw, hcat⟩ nD
    rw [List.drop_eq_nil_of_le (by lia)] at hmw
    unfold mwAll at hmw
    cases hmw
    rw [List.append_nil] at hcat
    subst hcat
    have nDl : l ≠ D := by rintro rfl; obtain ⟨_, q, _⟩ := Io; rw [nD] at q; cases q
    have nDn : ln ≠ D := by rintro rfl; obtain ⟨_, q, _⟩ := In; rw [nD] at q; cases q
    have Io4 : IL (upd g3 D (.lst ys)) l _ := Io.upd nDl
    have In4 : IL (upd g3 D (.lst ys)) ln _ := In.upd nDn
    have ID : IL (upd g3 D (.lst ys)) D _ := IL.self hrs
    have L4 : LeB (fun b => b = l ∨ b = ln) g1 (upd g3 D (.lst ys)) := L3.trans (LeB.upd (.inr nD))
    have gD : g D = none := by
      cases q : g D with
      | none => rfl
      | some ao => 
        have := L3 D ao (fun z => z.elim (fun z => nDl z.symm) (fun z => nDn z.symm)) (L1 _ _ q)
        rw [nD] at this; cases this
    generalize upd g3 D (.lst ys) = g4 at *
    walk_at "tws"
    refine while_q he (fun f ρ g' => ∃ o nn sc, scanW f o nn sc = some (old', new') ∧ LeB (fun b => b = l ∨ b = ln) g4 g' ∧ IL g' l o ∧ IL g' ln nn ∧ ρ "heap" = some (.ref x) ∧ ρ "new" = some (.ref xn) ∧ ρ "found" = some (.ref D) ∧ (∃ t, ρ "scan" = some (.int (sc : Nat) t))) ?_ fuel
      ⟨_, _, 0, hscan, LeB.refl _ _, Io4, In4, by walk_at "rho", by walk_at "rho", by walk_at "rho", ⟨_, by walk_at "rho"⟩⟩
    clear Io4 In4 hscan Io In hall L3 hys hrs
    rintro f ρ g5 Qb kn kr ⟨o, nn, sc, hsc, L5, Io, In, p1, p2, p3, ⟨ts, p4⟩⟩
    have L15 := L4.trans L5
    have H5 := H1.leB L15 hw1
    have Hn5 := Hn.leB L15 hw1
    have In' := In
    obtain ⟨vn5, en5, rn5⟩ := In'
    have lrn5 := ia_len rn5
    cases f with
    | zero => cases hsc
    | succ f =>
    unfold scanW at hsc
    split at hsc
    case isFalse => cases hsc
    rename_i hz
    walk_at "tws"
    refine h_cells W Hn5 ?_
    walk_at "tws"
    refine o_len (LIn.of en5) (by lia) fun t => ?_
    walk_at "tws"
    rw [lrn5]
    split at hsc
    · rename_i hnone
      have hge := List.getElem?_eq_none_iff.mp hnone
      cases hsc
      walk_at "no"
      walk_at "tws"
      refine ⟨by walk_at "sz", fun T nT => ?_⟩
      walk_at "tws"
      have L16 : LeB (fun b => b = l) g (upd g5 T (.tup [.ref xn, .ref D])) := fun b ao nb eb => by
        have h1 : b ≠ ln := by rintro rfl; rw [nl] at eb; cases eb
        have h2 := L15 b ao (fun q => q.elim nb h1) (L1 _ _ eb)
        have h3 : b ≠ T := by rintro rfl; rw [nT] at h2; cases h2
        rw [upd_ne h3]; exact h2
      refine h _ T xn ln D L16 (upd_self ..) (Hn5.updN nT) (In.upd (In.ne nT)) ?_ nx nl gD nDn
      refine (ID.leB L5 (fun q => q.elim (fun z => nDl z.symm) (fun z => nDn z.symm))).upd ?_
      rintro rfl
      obtain ⟨_, q, _⟩ := ID
      have := L5 _ _ (fun q => q.elim (fun z => nDl z.symm) (fun z => nDn z.symm)) q
      rw [nT] at this; cases this
    · rename_i hd hsome
      have hlt := (List.getElem?_eq_some_iff.mp hsome).1
      split at hsc
      case isFalse => cases hsc
      rename_i hb
      split at hsc
      · cases hsc
      rename_i o' n' hF
      obtain ⟨tv, ev⟩ := ia_get rn5 hsome
      walk_at "yes"
      walk_at "tws"
      refine h_cells W Hn5 ?_
      walk_at "tws"
      refine s_list (LIn.of en5) (o_getL (LIn.of en5) (by lia) (by lia) (by simpa using ev) ?_)
      walk_at "tws"
      refine o_range2 fun rr t1 t2 t3 nr => ?_
      refine forV_q he (iter_range (Room.handled hA') (upd_self ..) (by lia) (by lia) (by lia) (by lia)) (fun i ρ g' => LeB (fun b => b = l ∨ b = ln) g4 g' ∧ ρ "heap" = some (.ref x) ∧ ρ "new" = some (.ref xn) ∧ ρ "found" = some (.ref D) ∧ (∃ t, ρ "scan" = some (.int (sc : Nat) t)) ∧ (∃ t, ρ "length" = some (.int (hd / 8 / 16) t)) ∧
          ∃ oi ni, IL g' l oi ∧ IL g' ln ni ∧ scanF ((hd / 8 / 16).toNat - i) oi ni (sc + 1 + i) = some (o', n')) (fun _ _ _ _ => trivial) ⟨L5.trans (LeB.upd (.inr nr)), by walk_at "rho", by walk_at "rho", by walk_at "rho", ⟨_, by walk_at "rho"⟩, ⟨_, by walk_at "rho"⟩, o, nn, Io.upd (Io.ne nr), In.upd (In.ne nr), hF⟩ ?_ ?_
      · rintro i v ρ2 g6 g7 Qb kn kr hi ⟨L6, q1, q2, q3, ⟨tq, q4⟩, ⟨tq2, q5⟩, oi, ni, Ioi, Ini, hFi⟩ ⟨⟨ti, rfl⟩, rfl⟩
        have hi' : i < (hd / 8 / 16).toNat := by lia
        rw [show (hd / 8 / 16).toNat - i = ((hd / 8 / 16).toNat - (i + 1)) + 1 by lia] at hFi
        unfold scanF at hFi
        split at hFi
        · cases hFi
        rename_i w hw
        split at hFi
        · cases hFi
        rename_i o7 n7 w' hone
        split at hFi
        case isFalse => cases hFi
        rename_i hlt7
        have L16 := L4.trans L6
        have H6 := H1.leB L16 hw1
        have Hn6 := Hn.leB L16 hw1
        have Ini' := Ini
        obtain ⟨vn6, en6, rn6⟩ := Ini'
        have hltw := (List.getElem?_eq_some_iff.mp hw).1
        have eidx : ((sc : Int) + 1 + (i : Int)).toNat = sc + 1 + i := by lia
        obtain ⟨tw6, ew⟩ := ia_get rn6 hw
        walk_at "tws"
        refine h_cells W Hn6 ?_
        walk_at "tws"
        refine s_list (LIn.of en6) (o_getL (LIn.of en6) (by lia) (by lia) (by rw [eidx]; exact ew) ?_)
        walk_at "tws"
        refine f_moved W (by walk_at "room") H6 Ioi Hn6 Ini nll hone fun t g8 L8 Io8 In8 => ?_
        have L18 := L16.trans L8
        have Hn8 := Hn.leB L18 hw1
        obtain ⟨vn8, en8, rn8⟩ := In8
        have l8 := ia_len rn8
        walk_at "tws"
        refine h_cells W Hn8 ?_
        walk_at "tws"
        refine o_setL en8 (by lia) (by lia) (by lia) ?_
        walk_at "tws"
        refine kn _ _ ⟨L6.trans (L8.trans (LeB.upd (.inl (.inr rfl)))), by walk_at "rho", by walk_at "rho", by walk_at "rho", ⟨_, by walk_at "rho"⟩, ⟨_, by walk_at "rho"⟩, o7, n7.set (sc + 1 + i) w', Io8.upd nll, ?_, hFi⟩
        rw [eidx]
        exact IL.self (ia_set rn8 _ _ _)
      · rintro ρ2 g6 ⟨L6, q1, q2, q3, ⟨tq, q4⟩, ⟨tq2, q5⟩, oi, ni, Ioi, Ini, hFi⟩
        rw [show ((sc : Int) + 1 + hd / 8 / 16 - ((sc : Int) + 1)).toNat = (hd / 8 / 16).toNat by lia, Nat.sub_self] at hFi
        unfold scanF at hFi
        cases hFi
        walk_at "tws"
        refine kn f _ _ (by lia) ⟨_, _, _, hsc, L6, Ioi, Ini, by walk_at "rho", by walk_at "rho", by walk_at "rho", atT (setv_same _ _ _) (by lia)⟩
end
end
-- part M4
section
set_option maxHeartbeats 1000000
/-! ## What the plain law says -/
def SlideSpec (cells roots new rts : List Int) : Prop := ∃ fuel ks srt ps, markedM fuel cells roots = some ks ∧ ks.length < 64 ∧ srt.Perm ks ∧ srt.Pairwise (· ≤ ·) ∧ placesM cells srt 0 [] = some ps ∧ slideW cells ps ps [] = some new ∧ slidAll ps roots = some rts
def CollectSpec (cells roots new rts : List Int) : Prop := ∃ fuel old', collectM fuel cells roots = some (old', new, rts)
structure PlainLaw (shapes : List (Int × Int)) (pss : List (List (Int × Int))) (rts : List (Int × Int)) (order srt : List Int) (tM tS : List (Int × Int)) (mbs sbs : List (Int × List Int)) (mws sws : List Int) : Prop where
  lay : ∃ fuel, layM fuel pss rts = some order
  len : order.length < 64
  tm : thereM shapes order 0 [] = some tM
  cm : cellsM shapes pss tM order [] = some (flat mbs)
  wm : wordsM tM rts = some mws
  ts : thereM shapes srt 0 [] = some tS
  cs : cellsM shapes pss tS srt [] = some (flat sbs)
  ws : wordsM tS rts = some sws
  okM : ∀ b ∈ mbs, BlkOk (offs 0 mbs) b
  okS : ∀ b ∈ sbs, BlkOk (offs 0 sbs) b
  okH : ∀ b ∈ fb (wofs 0 shapes) shapes pss, BlkOk (offs 0 (fb (wofs 0 shapes) shapes pss)) b
  zM : (flat mbs).length ≤ 400
  zS : (flat sbs).length ≤ 400
  zH : (flat (fb (wofs 0 shapes) shapes pss)).length ≤ 400
  sl1 : SlideSpec (flat (fb (wofs 0 shapes) shapes pss)) (rts.map (wd (wofs 0 shapes))) (flat sbs) sws
  sl2 : SlideSpec (flat sbs) sws (flat sbs) sws
  co1 : CollectSpec (flat (fb (wofs 0 shapes) shapes pss)) (rts.map (wd (wofs 0 shapes))) (flat mbs) mws
  co2 : CollectSpec (flat mbs) mws (flat mbs) mws
  mlen : mws.length = rts.length
  slen : sws.length = rts.length
end
-- part X11
section
set_option maxHeartbeats 1000000
set_option maxRecDepth 100000
/-- what law's heap holds from its seventh statement on -/
structure LG (g₀ g : GH) (lsh lpa lr TM TS cm wm cs ws : Addr) (vpa : List Value) (shapes : List (Int × Int)) (pss : List (List (Int × Int))) (rts : List (Int × Int)) (mbs sbs : List (Int × List Int)) (mws sws : List Int) : Prop where
  S : PL g lsh shapes
  epa : g lpa = some (.lst vpa)
  rpa : PLsAre g₀ g vpa pss
  R : PL g lr rts
  eTM : g TM = some (.tup [.ref cm, .ref wm])
  Icm : IL g cm (flat mbs)
  Iwm : IL g wm mws
  eTS : g TS = some (.tup [.ref cs, .ref ws])
  Ics : IL g cs (flat sbs)
  Iws : IL g ws sws
section
variable {g₀ g g' : GH} {lsh lpa lr TM TS cm wm cs ws : Addr} {vpa : List Value} {shapes : List (Int × Int)} {pss : List (List (Int × Int))} {rts : List (Int × Int)} {mbs sbs : List (Int × List Int)} {mws sws : List Int}
theorem LG.leB {W : Addr → Prop} (x : LG g₀ g lsh lpa lr TM TS cm wm cs ws vpa shapes pss rts mbs sbs mws sws) (h : LeB W g g') (hw : ∀ b, W b → ∃ vs, g b = some (.lst vs)) (h0 : ∀ b, W b → g₀ b ≠ none)
    (n : ¬ W lsh ∧ ¬ W lpa ∧ ¬ W lr ∧ ¬ W cm ∧ ¬ W wm ∧ ¬ W cs ∧ ¬ W ws) : LG g₀ g' lsh lpa lr TM TS cm wm cs ws vpa shapes pss rts mbs sbs mws sws :=
  ⟨x.S.leB h hw n.1, h _ _ n.2.1 x.epa, x.rpa.leB h hw h0, x.R.leB h hw n.2.2.1, h _ _ (fun q => by obtain ⟨_, e⟩ := hw _ q; rw [x.eTM] at e; cases e) x.eTM, x.Icm.leB h n.2.2.2.1, x.Iwm.leB h n.2.2.2.2.1,
    h _ _ (fun q => by obtain ⟨_, e⟩ := hw _ q; rw [x.eTS] at e; cases e) x.eTS, x.Ics.leB h n.2.2.2.2.2.1, x.Iws.leB h n.2.2.2.2.2.2⟩
theorem LG.le (x : LG g₀ g lsh lpa lr TM TS cm wm cs ws vpa shapes pss rts mbs sbs mws sws) (h : Le g g') : LG g₀ g' lsh lpa lr TM TS cm wm cs ws vpa shapes pss rts mbs sbs mws sws :=
  ⟨x.S.le h, h _ _ x.epa, x.rpa.le h, x.R.le h, h _ _ x.eTM, x.Icm.le h, x.Iwm.le h, h _ _ x.eTS, x.Ics.le h, x.Iws.le h⟩
theorem LG.base {g₀' : GH} (x : LG g₀ g lsh lpa lr TM TS cm wm cs ws vpa shapes pss rts mbs sbs mws sws) (h : ∀ b, g₀ b = none → g₀' b = none) : LG g₀' g lsh lpa lr TM TS cm wm cs ws vpa shapes pss rts mbs sbs mws sws :=
  ⟨x.S, x.epa, x.rpa.base h, x.R, x.eTM, x.Icm, x.Iwm, x.eTS, x.Ics, x.Iws⟩
end
section
variable {c : Cx} {F : Fm} {A : Around} {g : GH} {Q : Value → GH → Prop} {lim : Int} {x l lr : Addr} {cells roots new rts : List Int} {b : Bool}
theorem f_slideS (W : Facts c) (hA : Room 6 A) (H : HO g x l lim) (hl : IL g l cells) (hr : IL g lr roots) (hz : cells.length ≤ 1000) (hrz : roots.length ≤ 800) (S : SlideSpec cells roots new rts)
    (h : ∀ g' T xn ln D, Le g g' → g' T = some (.tup [.ref xn, .ref D]) → HO g' xn ln lim → IL g' ln new → IL g' D rts → g xn = none → g ln = none → g D = none → ln ≠ D → Q (.ref T) g') : TW c F A (call (.ref 322) [.ref x, .ref lr]) g Q := by
  obtain ⟨fuel, ks, srt, ps, m1, h64, s1, s2, m2, m3, m4⟩ := S
  exact f_slide W hA H hl hr hz hrz m1 h64 s1 s2 m2 m3 m4 h
theorem spec_slide (W : Facts c) (H : HO g x l lim) (hl : IL g l cells) (hr : IL g lr roots) (hz : cells.length ≤ 1000) (hrz : roots.length ≤ 800) (S : SlideSpec cells roots new rts) : SpecOf true c g x l lr lim new rts := by
  obtain ⟨fuel, ks, srt, ps, m1, h64, s1, s2, m2, m3, m4⟩ := S
  intro F A Q hA h
  exact f_slide W hA H hl hr hz hrz m1 h64 s1 s2 m2 m3 m4 fun g' T xn ln D L => h g' T xn ln D L.leB
theorem spec_collect (W : Facts c) (H : HO g x l lim) (hl : IL g l cells) (hr : IL g lr roots) (hne : lr ≠ l) (hrz : roots.length ≤ 800) (S : CollectSpec cells roots new rts) : SpecOf false c g x l lr lim new rts := by
  obtain ⟨fuel, old', m⟩ := S
  intro F A Q hA h
  exact f_collect W (Room.mono hA (by decide)) H hl hr hne m hrz h
theorem bw_kept_over {env : Env} {ρ : Rho} {Q : Value → Rho → GH → Prop} (W : Facts c) (X : FX c) (he : EnvOk c env) (hfrm : env.frame = some env.locals) (hA : Room 8 A) (hfr : A.frames = some [env]) (H : HO g x l lim) (hl : ∃ vs, g l = some (.lst vs)) (S : SpecOf b c g x l lr lim new rts) (hz : new.length ≤ 1000) (hn : lim < (new.length : Int))
    (h : ∀ g' D t1 t2, LeB (fun b => b = l) g g' → g' D = some (.lst [.str "full" t1, .int lim t2]) → Q (.ref D) ρ g') :
    BW c env A (call (.ref 391) [.ref x, .ref lr, .bool b]) ρ g Q := fun s hb hf hh => by
  refine wpAny_mono (f_kept_over (Q := fun v g' => Q v ρ g') W X hA hfr H hl S hz hn h s hb (frs_of he hfrm hf Frs.nil) hh) (fun v s' z => ?_) (fun _ _ z => z)
  obtain ⟨g', st, q⟩ := z
  refine ⟨ρ, g', fr_slots st hf, ⟨st.has, fun b o e n no => ?_, st.os, st.gens⟩, q⟩
  obtain ⟨n', k, _⟩ := st.out b o e n
  refine ⟨k fun m => ?_, n'⟩
  unfold fsOf at m
  rw [List.filterMap_cons, hfrm] at m
  simp at m
  exact no (.inl m)
end
end
-- part X14
section
set_option maxHeartbeats 4000000
set_option maxRecDepth 100000
local macro_rules | `(tactic| walk_at "twx") => `(tactic| repeat ((fail_if_success (with_reducible show BW _ _ _ (execs _ _) _ _ _)); first | walk_at "tw" | (dsimp only [List.cons_append, List.nil_append])))
theorem shaped_full (x : Str) (n : Int) (hx : PyData.strOk x = true) : PySem.SeqAt.shaped (.list [.str x, .int n]) = true := by
  simp [PySem.SeqAt.shaped, PyData.canLay0, PyData.canLayAll0, PyData.depth, PyData.depthAll, hx]
theorem shaped_kept (x : Str) (a b : List Int) (hx : PyData.strOk x = true) : PySem.SeqAt.shaped (.list [.str x, .list (a.map .int), .list (b.map .int)]) = true := by
  simp [PySem.SeqAt.shaped, PyData.canLay0, PyData.canLayAll0, PyData.depth, PyData.depthAll, canAll_ints, depthAll_ints, hx]
section
variable {c : Cx} {F : Fm} {A A' : Around} {g g₀ : GH} {Q : Value → GH → Prop} {lim : Int} {tm : Tok} {lsh lpa lr TM TS cm wm cs ws xo lo lh : Addr} {vpa : List Value} {shapes : List (Int × Int)} {pss : List (List (Int × Int))} {rts : List (Int × Int)} {mbs sbs : List (Int × List Int)} {mws sws order srt : List Int} {tM tS : List (Int × Int)}
theorem f_law3 {name : Str} {params : Arguments} {body : List Stmt} {decs : List Expr} {ret : Option Expr} {tps : List TypeParam} {scope : Scope} {ts : Option Scope} {bind : Str} {pos : Pos} {L : Addr} {qual : Str} {cd : Value} {ρ : Rho}
    (hst : top 57 = some (.FunctionDef name params body decs ret tps scope ts bind pos)) (W : Facts c) (X : FX c) (hA' : Room 9 A') (he : EnvOk c (fenv scope L 396 qual cd)) (hfr' : A'.frames = some [fenv scope L 396 qual cd])
    (p1 : ρ "shapes" = some (.ref lsh)) (p2 : ρ "parts" = some (.ref lpa)) (p4 : ρ "met" = some (.ref TM)) (p5 : ρ "slid" = some (.ref TS)) (p6 : ρ "limit" = some (.int lim tm)) (p7 : ρ "own" = some (.ref xo)) (p8 : ρ "held" = some (.ref lh))
    (G : LG g₀ g lsh lpa lr TM TS cm wm cs ws vpa shapes pss rts mbs sbs mws sws) (P : PlainLaw shapes pss rts order srt tM tS mbs sbs mws sws)
    (Ho : HO g xo lo lim) (Io : IL g lo (flat (fb (wofs 0 shapes) shapes pss))) (Ih : IL g lh (rts.map (wd (wofs 0 shapes)))) (nhl : lh ≠ lo) (ncl : cm ≠ lo) (nwl : wm ≠ lo)
    (hs8 : shapes.length ≤ 8) (hsok : ∀ p ∈ shapes, ShapeOk p) (fit : Fits shapes.length shapes pss) (hr4 : rts.length ≤ 4) (hpr : ∀ p ∈ rts, PartOk shapes.length p) :
    BW c (fenv scope L 396 qual cd) A' (execs (body.drop 13) (fenv scope L 396 qual cd)) ρ g (fun fl ρ' g' => retOf fl = .bool true) := by
  cases hst
  show BW _ _ _ (execs (_ :: _) _) _ _ _
  walk_at "tws"
  refine ⟨by walk_at "sz", fun Ta nTa => ?_⟩
  walk_at "tws"
  refine ⟨by walk_at "sz", fun Tb nTb => ?_⟩
  walk_at "tws"
  refine ⟨by walk_at "sz", fun Ll nLl => ?_⟩
  have hab : Ta ≠ Tb := by rintro rfl; rw [upd_self] at nTb; cases nTb
  have hal : Ta ≠ Ll := by rintro rfl; rw [upd_ne hab, upd_self] at nLl; cases nLl
  have hbl : Tb ≠ Ll := by rintro rfl; rw [upd_self] at nLl; cases nLl
  have L3 := ((Le.upd (ao := .tup [.bool true, .ref TS]) nTa).trans (Le.upd (ao := .tup [.bool false, .ref TM]) nTb)).trans (Le.upd (ao := .lst [.ref Ta, .ref Tb]) nLl)
  generalize hg1 : upd (upd (upd g Ta _) Tb _) Ll _ = g1
  have L1 : Le g g1 := by rw [← hg1]; exact L3
  have ea : g1 Ta = some (.tup [.bool true, .ref TS]) := by rw [← hg1, upd_ne hal, upd_ne hab, upd_self]
  have eb : g1 Tb = some (.tup [.bool false, .ref TM]) := by rw [← hg1, upd_ne hbl, upd_self]
  have el : g1 Ll = some (.lst [.ref Ta, .ref Tb]) := by rw [← hg1, upd_self]
  clear hg1 L3
  have G1 := G.le L1
  refine forV_q he (iter_list (Room.handled hA') el) (fun i ρ g' => ρ "shapes" = some (.ref lsh) ∧ ρ "parts" = some (.ref lpa) ∧ ρ "met" = some (.ref TM) ∧ ρ "slid" = some (.ref TS) ∧ ρ "limit" = some (.int lim tm) ∧ ρ "own" = some (.ref xo) ∧ ρ "held" = some (.ref lh) ∧ Le g1 g')
    (fun _ _ _ q => q.2.2.2.2.2.2.2 _ _ el) ⟨by walk_at "rho", by walk_at "rho", by walk_at "rho", by walk_at "rho", by walk_at "rho", by walk_at "rho", by walk_at "rho", Le.refl _⟩ ?_ ?_
  · rintro i v ρ g2 g3 Qb kn kr hi ⟨q1, q2, q4, q5, q6, q7, q8, L2⟩ ⟨hv, rfl⟩
    have key : ∃ T b TD cd_ wd_ new rts', v = .ref T ∧ g3 T = some (.tup [.bool b, .ref TD]) ∧ g3 TD = some (.tup [.ref cd_, .ref wd_]) ∧ IL g3 cd_ new ∧ IL g3 wd_ rts' ∧ new.length ≤ 400 ∧ rts'.length = rts.length ∧
        (∀ g x l lr, HO g x l lim → IL g l (flat (fb (wofs 0 shapes) shapes pss)) → IL g lr (rts.map (wd (wofs 0 shapes))) → lr ≠ l → SpecOf b c g x l lr lim new rts') := by
      have G3 := G1.le L2
      match i, hi with
      | 0, _ =>
        cases hv
        exact ⟨Ta, true, TS, cs, ws, _, _, rfl, L2 _ _ ea, G3.eTS, G3.Ics, G3.Iws, P.zS, P.slen, fun g x l lr H hl hr ne => spec_slide W H hl hr (by have := P.zH; lia) (by simp; lia) P.sl1⟩
      | 1, _ =>
        cases hv
        exact ⟨Tb, false, TM, cm, wm, _, _, rfl, L2 _ _ eb, G3.eTM, G3.Icm, G3.Iwm, P.zM, P.mlen, fun g x l lr H hl hr ne => spec_collect W H hl hr ne (by simp; lia) P.co1⟩
    clear hv hi
    obtain ⟨T, b, TD, lc, lw, new, rts', rfl, eT, eTD, Ic, Iw, hz, hrl, spec⟩ := key
    walk_at "tup"
    walk_at "twx"
    have G3 := G1.le L2
    have Ih3 := Ih.le (L1.trans L2)
    by_cases hn : lim < (new.length : Int)
    · refine b_cons he (bb_AssignL he (by rfl) (be_CallN ?_))
      walk_at "tws"
      refine f_lheap W (by walk_at "room") G3.S G3.epa G3.rpa hs8 hsok fit rfl fun g4 To x4 l4 w4 L4 eTo H4 I4 Iw4 nx4 nl4 nw4 nlw4 => ?_
      walk_at "tws"
      refine s_tup eTo (o_getT eTo (by lia) (by lia) (by rfl) ?_)
      walk_at "tws"
      have Ih4 := Ih3.le L4
      refine bw_kept_over W X he (by rfl) (by walk_at "room") hfr' H4 ⟨_, I4.choose_spec.1⟩ (spec g4 x4 l4 lh H4 I4 Ih4 (Ih3.ne nl4)) (by lia) hn fun g5 D t1 t2 L5 eD => ?_
      have L35 : Le g3 g5 := fun b ao e => L5 b ao (by rintro rfl; rw [nl4] at e; cases e) (L4 b ao e)
      have hu := hA'.units
      walk_at "twi"
      have eTD5 := L35 _ _ eTD
      obtain ⟨vc, ec, rc⟩ := Ic.le L35
      have lvc := ia_len rc
      walk_at "tws"
      refine s_tup eTD5 (o_getT eTD5 (by lia) (by lia) (by rfl) ?_)
      walk_at "tws"
      refine o_len (LIn.of ec) (by lia) fun tl => ?_
      walk_at "tws"
      refine ifT (by simp; lia) ?_
      walk_at "tws"
      refine ⟨by walk_at "sz", fun K nK => ?_⟩
      have L6 : ∀ ao, Le g5 (upd g5 K ao) := fun _ => Le.upd nK
      walk_at "tws"
      refine o_neD (RD.lst (L6 _ _ _ eD) (.cons (RD.str _ _) (.cons (RD.int _ _) .nil))) (RD.lst (upd_self ..) (.cons (RD.str _ _) (.cons (RD.int _ _) .nil))) (shaped_full "full" _ (by decide +kernel)) (shaped_full "full" _ (by decide +kernel)) (by lia) ?_
      rw [eqv_same _ (shaped_full "full" _ (by decide +kernel))]
      walk_at "tws"
      refine ifF (by decide) ?_
      refine b_nil ?_
      refine kn _ _ ⟨by walk_at "rho", by walk_at "rho", by walk_at "rho", by walk_at "rho", by walk_at "rho", by walk_at "rho", by walk_at "rho", (L2.trans L35).trans (L6 _)⟩
    · walk_at "tws"
      refine f_lheap W (by walk_at "room") G3.S G3.epa G3.rpa hs8 hsok fit rfl fun g4 To x4 l4 w4 L4 eTo H4 I4 Iw4 nx4 nl4 nw4 nlw4 => ?_
      walk_at "tws"
      refine s_tup eTo (o_getT eTo (by lia) (by lia) (by rfl) ?_)
      walk_at "tws"
      have Ih4 := Ih3.le L4
      refine f_kept W (by walk_at "room") (spec g4 x4 l4 lh H4 I4 Ih4 (Ih3.ne nl4)) (by lia) (by lia) hn fun g5 D t1 a1 a2 L5 eD Ia1 Ia2 => ?_
      have L35 : Le g3 g5 := fun b ao e => L5 b ao (by rintro rfl; rw [nl4] at e; cases e) (L4 b ao e)
      have hu := hA'.units
      walk_at "twi"
      have eTD5 := L35 _ _ eTD
      obtain ⟨vc, ec, rc⟩ := Ic.le L35
      have lvc := ia_len rc
      obtain ⟨vw, ew, rw_⟩ := Iw.le L35
      obtain ⟨v1, e1, r1⟩ := Ia1
      obtain ⟨v2, e2, r2⟩ := Ia2
      walk_at "tws"
      refine s_tup eTD5 (o_getT eTD5 (by lia) (by lia) (by rfl) ?_)
      walk_at "tws"
      refine o_len (LIn.of ec) (by lia) fun tl => ?_
      walk_at "tws"
      refine ifF (by simp; lia) ?_
      walk_at "tws"
      refine s_tup eTD5 (o_getT eTD5 (by lia) (by lia) (by rfl) ?_)
      walk_at "tws"
      refine s_tup eTD5 (o_getT eTD5 (by lia) (by lia) (by rfl) ?_)
      walk_at "tws"
      refine ⟨by walk_at "sz", fun K nK => ?_⟩
      have L6 : ∀ ao, Le g5 (upd g5 K ao) := fun _ => Le.upd nK
      walk_at "tws"
      refine o_neD (RD.lst (L6 _ _ _ eD) (.cons (RD.str _ _) (.cons (RD.ints (L6 _ _ _ e1) r1) (.cons (RD.ints (L6 _ _ _ e2) r2) .nil)))) (RD.lst (upd_self ..) (.cons (RD.str _ _) (.cons (RD.ints (L6 _ _ _ ec) rc) (.cons (RD.ints (L6 _ _ _ ew) rw_) .nil)))) (shaped_kept "kept" _ _ (by decide +kernel)) (shaped_kept "kept" _ _ (by decide +kernel)) (by lia) ?_
      rw [eqv_same _ (shaped_kept "kept" _ _ (by decide +kernel))]
      walk_at "tws"
      refine ifF (by decide) ?_
      refine b_nil ?_
      refine kn _ _ ⟨by walk_at "rho", by walk_at "rho", by walk_at "rho", by walk_at "rho", by walk_at "rho", by walk_at "rho", by walk_at "rho", (L2.trans L35).trans (L6 _)⟩
  · rintro ρ g2 ⟨q1, q2, q4, q5, q6, q7, q8, L2⟩
    have L02 := L1.trans L2
    have Ho2 := Ho.le L02
    have Io2 := Io.le L02
    have Ih2 := Ih.le L02
    have G2 := G.le L02
    have hzM := P.zM
    have hml := P.mlen
    walk_at "tws"
    refine spec_collect W Ho2 Io2 Ih2 nhl (by simp; lia) P.co1 _ _ _ (by walk_at "room") fun g3 T1 x1 l1 D1 L3 eT1 H1 I1 ID1 nx1 nl1 nD1 nlD1 => ?_
    have eTM3 := L3 _ _ (by rintro rfl; obtain ⟨_, e, _⟩ := Io2; rw [G2.eTM] at e; cases e) G2.eTM
    have Icm3 := G2.Icm.leB L3 ncl
    have Iwm3 := G2.Iwm.leB L3 nwl
    walk_at "tws"
    refine f_is W (by walk_at "room") eT1 H1 I1 ID1 eTM3 Icm3 Iwm3 (by lia) (by lia) P.okM fun g4 L4 => ?_
    walk_at "tws"
    refine ifT (by decide) ?_
    walk_at "tws"
    have eT4 := L4 _ _ eT1
    refine s_tup eT4 (o_getT eT4 (by lia) (by lia) (by rfl) ?_)
    walk_at "tws"
    refine s_tup eT4 (o_getT eT4 (by lia) (by lia) (by rfl) ?_)
    walk_at "tws"
    have ntl : ∀ b ao, g2 b = some ao → b ≠ l1 := fun b ao e => by rintro rfl; rw [nl1] at e; cases e
    refine spec_collect W (H1.le L4) (I1.le L4) (ID1.le L4) nlD1.symm (by lia) P.co2 _ _ _ (by walk_at "room") fun g5 T2 x2 l2 D2 L5 eT2 H2 I2 ID2 nx2 nl2 nD2 nlD2 => ?_
    have eTM5 := L5 _ _ (ntl _ _ G2.eTM) (L4 _ _ eTM3)
    have Icm5 := (Icm3.le L4).leB L5 (by obtain ⟨_, e, _⟩ := G2.Icm; exact ntl _ _ e)
    have Iwm5 := (Iwm3.le L4).leB L5 (by obtain ⟨_, e, _⟩ := G2.Iwm; exact ntl _ _ e)
    walk_at "tws"
    refine f_is W (by walk_at "room") eT2 H2 I2 ID2 eTM5 Icm5 Iwm5 (by lia) (by lia) P.okM fun g6 L6 => ?_
    rfl
end
end
-- part X13
section
set_option maxHeartbeats 4000000
set_option maxRecDepth 100000
section
variable {c : Cx} {F : Fm} {A A' : Around} {g g₀ : GH} {Q : Value → GH → Prop} {lim : Int} {tm : Tok} {lsh lpa lr TM TS cm wm cs ws : Addr} {vpa : List Value} {shapes : List (Int × Int)} {pss : List (List (Int × Int))} {rts : List (Int × Int)} {mbs sbs : List (Int × List Int)} {mws sws order srt : List Int} {tM tS : List (Int × Int)}
theorem fb_sum {words : List Int} {m : Int} : ∀ {ss : List (Int × Int)} {ps : List (List (Int × Int))}, Fits m ss ps → (∀ p ∈ ss, ShapeOk p) → (((flat (fb words ss ps)).length : Int)) = (ss.map fun s => 1 + s.2).sum
  | _, _, .nil, _ => rfl
  | s :: ss, p :: ps, .cons a b r, h => by
    have ih := fb_sum (words := words) r fun q hq => h q (by simp [hq])
    rw [show fb words (s :: ss) (p :: ps) = (hdr s, p.map (wd words)) :: fb words ss ps from rfl, flat_cons_len, List.map_cons, List.sum_cons, ← ih]
    simp; lia
theorem f_law2 {name : Str} {params : Arguments} {body : List Stmt} {decs : List Expr} {ret : Option Expr} {tps : List TypeParam} {scope : Scope} {ts : Option Scope} {bind : Str} {pos : Pos} {L : Addr} {qual : Str} {cd : Value} {ρ : Rho}
    (hst : top 57 = some (.FunctionDef name params body decs ret tps scope ts bind pos)) (W : Facts c) (X : FX c) (hA' : Room 9 A') (he : EnvOk c (fenv scope L 396 qual cd)) (hfr' : A'.frames = some [fenv scope L 396 qual cd])
    (p1 : ρ "shapes" = some (.ref lsh)) (p2 : ρ "parts" = some (.ref lpa)) (p3 : ρ "roots" = some (.ref lr)) (p4 : ρ "met" = some (.ref TM)) (p5 : ρ "slid" = some (.ref TS)) (p6 : ρ "limit" = some (.int lim tm))
    (G : LG g₀ g lsh lpa lr TM TS cm wm cs ws vpa shapes pss rts mbs sbs mws sws) (P : PlainLaw shapes pss rts order srt tM tS mbs sbs mws sws)
    (hs8 : shapes.length ≤ 8) (hsok : ∀ p ∈ shapes, ShapeOk p) (fit : Fits shapes.length shapes pss) (hr4 : rts.length ≤ 4) (hpr : ∀ p ∈ rts, PartOk shapes.length p) :
    BW c (fenv scope L 396 qual cd) A' (execs (body.drop 7) (fenv scope L 396 qual cd)) ρ g (fun fl ρ' g' => retOf fl = .bool true) := by
  have hst2 := hst
  cases hst
  show BW _ _ _ (execs (_ :: _) _) _ _ _
  walk_at "tws"
  refine f_lheap W (by walk_at "room") G.S G.epa G.rpa hs8 hsok fit rfl fun g1 To xo lo lw L1 eTo Ho Io Iw nxo nlo nlw nlolw => ?_
  have G1 := G.le L1
  walk_at "tws"
  walk_at "tup"
  walk_at "tws"
  obtain ⟨vr, er, rr⟩ := G1.R
  obtain ⟨vw, ew, rw_⟩ := Iw
  have lrr := rr.len
  refine comp_q (fun j ys g' => g' = g1 ∧ IntsAre ys ((rts.take j).map (wd (wofs 0 shapes)))) (iter_list (Room.handled hA') er) (by rw [sizeLine_eq]; lia) (fun i ys g' q => by rw [q.1]; exact er) (⟨rfl, .nil⟩) ?_ ?_
  · rintro i ys v g2 g3 Kb kn hi hys ⟨rfl, hI⟩ ⟨hv, rfl⟩
    obtain ⟨T, pa, pb, rfl, ⟨ta, tb, eT⟩, hps⟩ := rr.at hv
    have pok := hpr (pa, pb) (List.mem_of_getElem? hps)
    intro C hC
    walk_at "tup"
    walk_at "tws"
    have htk : rts.take (i + 1) = rts.take i ++ [(pa, pb)] := by rw [List.take_add_one, hps]; rfl
    rw [htk, List.map_append] at kn
    refine ifS (fun q => ?_) (fun q => ?_)
    · walk_at "tws"
      have q' : pa < 0 := by simpa using q
      exact kn _ _ ⟨rfl, ia_app hI (by have : wd (wofs 0 shapes) (pa, pb) = pb := by { unfold wd; rw [if_pos q'] }; rw [List.map_cons, List.map_nil, this]; exact ia_one _ _)⟩
    · walk_at "tws"
      have q' : ¬ pa < 0 := by simpa using q
      have pl : pa < shapes.length := by rcases pok with h1 | h1; exact h1.2.1; exact absurd h1.1 (by intro z; simp only at z; lia)
      have hp' : pa.toNat < (wofs 0 shapes).length := by rw [wofs_len]; lia
      obtain ⟨t9, h9⟩ := ia_get rw_ (List.getElem?_eq_getElem hp')
      refine s_list (LIn.of ew) (o_getL (LIn.of ew) (by lia) (by lia) h9 ?_)
      exact kn _ _ ⟨rfl, ia_app hI (by have : wd (wofs 0 shapes) (pa, pb) = (wofs 0 shapes)[pa.toNat] := by { unfold wd; rw [if_neg q', List.getD_eq_getElem?_getD, List.getElem?_eq_getElem hp']; rfl }; rw [List.map_cons, List.map_nil, this]; exact ia_one _ _)⟩
  · rintro ys g2 lh hys ⟨rfl, hI⟩ nlh
    rw [lrr, List.take_length] at hI
    have L2 : Le g2 (upd g2 lh (.lst ys)) := Le.upd nlh
    have Ih : IL (upd g2 lh (.lst ys)) lh (rts.map (wd (wofs 0 shapes))) := IL.self hI
    have nhl : lh ≠ lo := (Io.ne nlh).symm
    generalize upd g2 lh (.lst ys) = g3 at *
    have G3 := G1.le L2
    have Ho3 := Ho.le L2
    have Io3 := Io.le L2
    have hzH := P.zH
    walk_at "tws"
    refine h_cells W Ho3 ?_
    walk_at "tws"
    obtain ⟨vl, el, rl⟩ := Io3
    have lvl := ia_len rl
    refine o_listOf (LIn.of el) (by rw [sizeLine_eq]; lia) fun lb nlb => ?_
    have L3 : Le g3 (upd g3 lb (.lst vl)) := Le.upd nlb
    have Ib : IL (upd g3 lb (.lst vl)) lb (flat (fb (wofs 0 shapes) shapes pss)) := ⟨vl, upd_self .., rl⟩
    generalize upd g3 lb (.lst vl) = g4 at *
    have G4 := G3.le L3
    have Ho4 := Ho3.le L3
    have Io4 : IL g4 lo (flat (fb (wofs 0 shapes) shapes pss)) := ⟨vl, L3 _ _ el, rl⟩
    have Ih4 := Ih.le L3
    walk_at "tws"
    refine f_herr W (by walk_at "room") Ho4 Io4 (by lia) P.okH fun g5 L5 => ?_
    have G5 := G4.le L5
    have Ho5 := Ho4.le L5
    have Io5 := Io4.le L5
    have Ih5 := Ih4.le L5
    have Ib5 := Ib.le L5
    walk_at "tws"
    refine o_isNotNone (by intro _ q; cases q) ?_
    walk_at "tws"
    refine ifF (by decide) ?_
    walk_at "tws"
    refine h_meth (ij := (35, 1)) W Ho5 (by rfl) (by rfl) (by decide +kernel) ?_
    walk_at "tws"
    refine f_used W (by walk_at "room") Ho5 Io5 (by lia) fun tu => ?_
    walk_at "tws"
    obtain ⟨vsh, esh, rsh⟩ := G5.S
    have lsh_ := rsh.len
    refine comp_q (fun j ys g' => g' = g5 ∧ IntsAre ys ((shapes.take j).map fun s => 1 + s.2)) (iter_list (Room.handled hA') esh) (by rw [sizeLine_eq]; lia) (fun i ys g' q => by rw [q.1]; exact esh) (⟨rfl, .nil⟩) ?_ ?_
    · rintro i ys v g6 g7 Kb kn hi hys ⟨rfl, hI⟩ ⟨hv, rfl⟩
      obtain ⟨T, pa, pb, rfl, ⟨ta, tb, eT⟩, hps⟩ := rsh.at hv
      intro C hC
      walk_at "tup"
      walk_at "tws"
      have htk : shapes.take (i + 1) = shapes.take i ++ [(pa, pb)] := by rw [List.take_add_one, hps]; rfl
      rw [htk, List.map_append] at kn
      exact kn _ _ ⟨rfl, ia_app hI (ia_one _ _)⟩
    · rintro ys g6 D hys ⟨rfl, hI⟩ nD
      rw [lsh_, List.take_length] at hI
      have L6 : Le g6 (upd g6 D (.lst ys)) := Le.upd nD
      have eD : (upd g6 D (.lst ys)) D = some (.lst ys) := upd_self ..
      generalize upd g6 D (.lst ys) = g7 at *
      have G7 := G5.le L6
      have Ho7 := Ho5.le L6
      have Io7 := Io5.le L6
      have Ih7 := Ih5.le L6
      have Ib7 := Ib5.le L6
      walk_at "tws"
      refine o_sum (Room.handled hA') (LIn.of eD) hI fun ts => ?_
      walk_at "tws"
      have hsum : (((flat (fb (wofs 0 shapes) shapes pss)).length : Int)) = (shapes.map fun s => 1 + s.2).sum := fb_sum fit hsok
      refine ifF (by simp [hsum]) ?_
      walk_at "tws"
      refine ifF (by decide) ?_
      walk_at "tws"
      have hml := P.slen
      have hzS := P.zS
      refine f_slideS W (by walk_at "room") Ho7 Io7 Ih7 (by lia) (by simp; lia) P.sl1 fun g8 T1 x1 l1 D1 L8 eT1 H1 I1 ID1 nx1 nl1 nD1 nlD1 => ?_
      have G8 := G7.le L8
      walk_at "tws"
      refine f_is W (by walk_at "room") eT1 H1 I1 ID1 G8.eTS G8.Ics G8.Iws (by lia) (by lia) P.okS fun g9 L9 => ?_
      walk_at "tws"
      refine ifF (by decide) ?_
      walk_at "tws"
      have L79 := L8.trans L9
      have G9 := G8.le L9
      have Ho9 := Ho7.le L79
      have Io9 := Io7.le L79
      have Ih9 := Ih7.le L79
      have Ib9 := Ib7.le L79
      refine h_cells W Ho9 ?_
      walk_at "tws"
      have hu := hA'.units
      obtain ⟨v1, e1, r1⟩ := Io9
      obtain ⟨v2, e2, r2⟩ := Ib9
      refine o_neD (RD.ints e1 r1) (RD.ints e2 r2) (shaped_ints _) (shaped_ints _) (by lia) ?_
      rw [eqv_same _ (shaped_ints _)]
      walk_at "tws"
      refine ifF (by decide) ?_
      walk_at "tws"
      have eT9 := L9 _ _ eT1
      refine s_tup eT9 (o_getT eT9 (by lia) (by lia) (by rfl) ?_)
      walk_at "tws"
      refine s_tup eT9 (o_getT eT9 (by lia) (by lia) (by rfl) ?_)
      walk_at "tws"
      refine f_slideS W (by walk_at "room") (H1.le L9) (I1.le L9) (ID1.le L9) (by lia) (by lia) P.sl2 fun g10 T2 x2 l2 D2 L10 eT2 H2 I2 ID2 nx2 nl2 nD2 nlD2 => ?_
      have G10 := G9.le L10
      walk_at "tws"
      refine f_is W (by walk_at "room") eT2 H2 I2 ID2 G10.eTS G10.Ics G10.Iws (by lia) (by lia) P.okS fun g11 L11 => ?_
      have L911 := L10.trans L11
      walk_at "tws"
      refine ifF (by decide) ?_
      walk_at "tws"
      refine ifF (by decide) ?_
      refine b_nil ?_
      have L711 := L79.trans L911
      have nlo' : g lo = none := nlo
      have r := f_law3 hst2 W X hA' he hfr' (ρ := setv (setv (setv (setv (setv ρ "own" (.ref xo)) "words" (.ref lw)) "held" (.ref lh)) "before" (.ref lb)) "first" (.ref T1)) (by walk_at "rho") (by walk_at "rho") (by walk_at "rho") (by walk_at "rho") (by walk_at "rho") (by walk_at "rho") (by walk_at "rho")
        (G10.le L11) P (Ho7.le L711) (Io7.le L711) (Ih7.le L711) nhl (G.Icm.ne nlo) (G.Iwm.ne nlo) hs8 hsok fit hr4 hpr
      walk_at "tw"
      exact r
end
end
-- part X12
section
set_option maxHeartbeats 4000000
set_option maxRecDepth 100000
section
variable {c : Cx} {F : Fm} {A : Around} {g : GH} {Q : Value → GH → Prop} {l : Addr}
theorem f_law {vs : List Value} {ns : List Int} (W : Facts c) (X : FX c) (hA : Room 10 A) (hfr : A.frames = some []) (hl : ∀ g, LIn c g l vs) (hi : IntsAre vs ns) (hz : ns.length ≤ 63)
    (plain : ∀ shapes pss rts, 1 ≤ shapes.length → shapes.length ≤ 8 → (∀ p ∈ shapes, ShapeOk p) → Fits shapes.length shapes pss → rts.length ≤ 4 → (∀ p ∈ rts, PartOk shapes.length p) →
      ∃ fuel order tM mbs mws, layM fuel pss rts = some order ∧ order.length < 64 ∧ thereM shapes order 0 [] = some tM ∧ cellsM shapes pss tM order [] = some (flat mbs) ∧ wordsM tM rts = some mws ∧ (flat mbs).length ≤ 400 ∧ ∀ srt, srt.Perm order → srt.Pairwise (· ≤ ·) → ∃ tS sbs sws, PlainLaw shapes pss rts order srt tM tS mbs sbs mws sws) :
    ∀ s : Shared, BaseOk c s.heap g → Has c g s.heap → wpAny c.M A (call (.ref 396) [.ref l]) (fun v s' => ∃ g', Step c s g s' g' ∧ v = .bool true) (fun _ _ => False) s := fun s hb hh => by
  refine wpAny_call (f_enter (n := 9) [("script", .ref l)] W.ok (W.fn 57 396 (by rfl)) hA (by rfl) (by decide +kernel) (by intros; rfl) (by rfl) s hb hh fun L qual cd env s₁ eE he room fresh hb₁ hf₁ hh₁ st => ?_)
  have hfr' : (A.deeper env).frames = some [env] := by show A.frames.map _ = _; rw [hfr]; rfl
  have hfrm : env.frame = some env.locals := by rw [eE]; rfl
  generalize hAd : A.deeper env = A' at *
  suffices bw : BW c env A' (execs _ env) (bindR [("script", .ref l)] fun _ => none) g (fun fl ρ' g' => retOf fl = .bool true) from
    wpAny_mono (bw s₁ hb₁ hf₁ hh₁) (fun fl s₂ ⟨ρ', g', _, so, q⟩ => by
      refine ⟨g', ⟨so.has, fun b o e n => ?_, so.os.trans st.os, so.gens.trans st.gens⟩, q⟩
      obtain ⟨e1, n1⟩ := st.out b o e n
      exact so.out b o e1 n1 fun z => by rw [fresh b z.fp] at e; cases e) (fun _ _ z => z.elim)
  clear hb₁ hf₁ hh₁ st fresh hb hh s s₁
  subst eE
  clear hAd hA
  have hA' := room
  walk_at "tws"
  refine f_pot W (by walk_at "room") hl hi hz fun g1 lp ls L1 P1 nlp nls => ?_
  walk_at "tws"
  refine f_shapes W (by walk_at "room") P1 fun g2 lsh shapes L2 P2 S2 nlsh hs1 hs8 hsok => ?_
  walk_at "tws"
  have nsh : lsh ≠ lp := (P1.ne1 nlsh).1.symm
  refine f_parts W (by walk_at "room") P2 S2 nsh hs8 hs1 hsok fun g3 lpa vpa pss L3 P3 epa rpa nlpa fit => ?_
  have npa : lpa ≠ lp := (P2.ne1 nlpa).1.symm
  have S3 := S2.leB L3 (pot_lst P2) nsh
  walk_at "tws"
  refine f_dip W (by walk_at "room") P3 (by decide) fun g4 d t L4 P4 d0 d4 => ?_
  have S4 := S3.leB L4 (pot_lst P3) nsh
  have h20 : ∀ b, b = lp → g2 b ≠ none := fun b q => by rw [q]; exact P2.has.1
  have rpa4 := rpa.leB L4 (pot_lst P3) h20
  have epa4 := L4 _ _ npa epa
  walk_at "tws"
  refine o_range1 fun rr t1 t2 t3 nr => ?_
  have ner := P4.ne1 nr
  obtain ⟨vsh, esh, rsh⟩ := S4
  have lsh_ := rsh.len
  have S5 := rsh.le (Le.upd (ao := .raw (rangeObj 0 (1 + d) t1 t2 t3)) nr)
  have esh5 := Le.upd (ao := .raw (rangeObj 0 (1 + d) t1 t2 t3)) nr _ _ esh
  have epa5 := Le.upd (ao := .raw (rangeObj 0 (1 + d) t1 t2 t3)) nr _ _ epa4
  have rpa5 := rpa4.le (Le.upd (ao := .raw (rangeObj 0 (1 + d) t1 t2 t3)) nr)
  refine comp_q (fun j ys g' => Pot g' lp ls ∧ g' lsh = some (.lst vsh) ∧ PairsAre g' vsh shapes ∧ g' lpa = some (.lst vpa) ∧ PLsAre g2 g' vpa pss ∧ ∃ rts, PairsAre g' ys rts ∧ rts.length = j ∧ ∀ p ∈ rts, PartOk shapes.length p) (iter_range (Room.handled hA') (upd_self ..) (by lia) (by lia) (by lia) (by lia)) (by rw [sizeLine_eq]; lia) (fun _ _ _ _ => trivial) (⟨P4.upd ner.1 ner.2, esh5, S5, epa5, rpa5, [], .nil, rfl, by simp⟩) ?_ ?_
  · rintro j ys v g6 g7 Kb kn hj hys ⟨P6, e6, r6, ep6, rp6, rts, hr, hlr, hpr⟩ ⟨⟨tj, rfl⟩, rfl⟩
    intro C hC
    walk_at "tws"
    refine o_len (LIn.of e6) (by lia) fun t => ?_
    walk_at "tws"
    refine f_part W (by walk_at "room") P6 (by lia) fun g8 T pa pb L8 P8 hT nT hpo => ?_
    have hw := pot_lst P6
    refine kn _ _ ⟨P8, L8 _ _ nsh e6, r6.leB L8 hw, L8 _ _ npa ep6, rp6.leB L8 hw h20, rts ++ [(pa, pb)], (hr.leB L8 hw).app (.cons hT .nil), by simp [hlr], fun p hp' => ?_⟩
    rcases List.mem_append.mp hp' with hp' | hp'
    · exact hpr p hp'
    · simp at hp'; subst hp'; rw [lsh_] at hpo; exact hpo
  · rintro ys g6 lr hys ⟨P6, e6, r6, ep6, rp6, rts, hr, hlr, hpr⟩ nlr
    have LD : Le g6 (upd g6 lr (.lst ys)) := Le.upd nlr
    have neD := P6.ne1 nlr
    have P7 := P6.upd (ao := .lst ys) neD.1 neD.2
    have S7 : PL (upd g6 lr (.lst ys)) lsh shapes := ⟨vsh, LD _ _ e6, r6.le LD⟩
    have ep7 := LD _ _ ep6
    have rp7 := rp6.le LD
    have R7 : PL (upd g6 lr (.lst ys)) lr rts := ⟨ys, upd_self .., hr.le LD⟩
    generalize upd g6 lr (.lst ys) = g7 at *
    have nrp : lr ≠ lp := neD.1.symm
    obtain ⟨fuel, order, tM, mbs, mws, hlay, hol, htm, hcm, hwm, hzm, hpl⟩ := plain shapes pss rts hs1 hs8 hsok fit (by lia) hpr
    walk_at "tws"
    refine f_layers W (by walk_at "room") ep7 rp7 R7 hlay fun g8 lo L8 I8 nlo => ?_
    walk_at "tws"
    refine f_lcells W (by walk_at "room") (S7.le L8) (L8 _ _ ep7) (rp7.le L8) (R7.le L8) I8 (by lia) htm hcm hwm fun g9 TM cm wm L9 eTM Icm Iwm ncm nwm => ?_
    have L79 := L8.trans L9
    walk_at "tws"
    obtain ⟨vo, eo, ro⟩ := I8.le L9
    have lvo := ia_len ro
    refine o_sorted (LIn.of eo) ro (by lia) fun so vso srt nso rso sperm ssort => ?_
    obtain ⟨tS, sbs, sws, PLW⟩ := hpl srt sperm ssort
    have L10 : Le g9 (upd g9 so (.lst vso)) := Le.upd nso
    have Iso : IL (upd g9 so (.lst vso)) so srt := IL.self rso
    generalize upd g9 so (.lst vso) = g10 at *
    have L710 := L79.trans L10
    walk_at "tws"
    refine f_lcells W (by walk_at "room") (S7.le L710) (L710 _ _ ep7) (rp7.le L710) (R7.le L710) Iso (by lia) PLW.ts PLW.cs PLW.ws fun g11 TS cs ws L11 eTS Ics Iws ncs nws => ?_
    have L711 := L710.trans L11
    have L911 := L10.trans L11
    walk_at "tws"
    refine ⟨by walk_at "sz", fun TT nTT => ⟨TT, _, rfl, upd_self .., rfl, ?_⟩⟩
    have L12 : Le g11 (upd g11 TT (.tup [.ref TM, .ref TS])) := Le.upd nTT
    generalize upd g11 TT (.tup [.ref TM, .ref TS]) = g12 at *
    have L712 := L711.trans L12
    have P12 := P7.le L712
    walk_at "tws"
    show BW _ _ _ (assignInOrder [_, _] [_, _]) _ _ _
    refine a_more he (BW.bindName (BW.store_local he (by rfl) ?_))
    refine a_more he (BW.bindName (BW.store_local he (by rfl) ?_))
    refine a_none ?_
    walk_at "tws"
    have eTM12 := L12 _ _ (L911 _ _ eTM)
    refine s_tup eTM12 (o_getT eTM12 (by lia) (by lia) (by rfl) ?_)
    walk_at "tws"
    obtain ⟨vcm, ecm, rcm⟩ := Icm.le (L911.trans L12)
    have lcm := ia_len rcm
    refine o_len (LIn.of ecm) (by lia) fun tl => ?_
    walk_at "tws"
    refine f_dip W (by walk_at "room") P12 (by decide) fun g13 d5 t5 L13 P13 d50 d53 => ?_
    walk_at "tws"
    refine o_max (Room.handled hA') fun tm => ?_
    generalize (if (_ : Int) > 0 then _ else _ : Int) = lim
    have P8 := P7.le L8
    have P10 := P7.le L710
    have G13 : LG g2 g13 lsh lpa lr TM TS cm wm cs ws vpa shapes pss rts mbs sbs mws sws :=
      LG.leB (W := fun b => b = lp) (LG.mk (S7.le L712) (L712 _ _ ep7) (rp7.le L712) (R7.le L712) eTM12 ⟨vcm, ecm, rcm⟩ (Iwm.le (L911.trans L12)) (L12 _ _ eTS) (Ics.le L12) (Iws.le L12)) L13 (pot_lst P12) h20
        ⟨nsh, npa, nrp, (P8.ne1 ncm).1.symm, (P8.ne1 nwm).1.symm, (P10.ne1 ncs).1.symm, (P10.ne1 nws).1.symm⟩
    have hst2 : top 57 = some (.FunctionDef _ _ _ _ _ _ _ _ _ _) := rfl
    have r := f_law2 hst2 W X hA' he hfr' (ρ := setv (setv (setv (setv (setv (setv (setv (setv (bindR [("script", .ref l)] fun _ => none) "pot" (.ref lp)) "shapes" (.ref lsh)) "parts" (.ref lpa)) "roots" (.ref lr)) "order" (.ref lo)) "slid" (.ref TS)) "met" (.ref TM)) "limit" (.int lim tm))
      (by walk_at "rho") (by walk_at "rho") (by walk_at "rho") (by walk_at "rho") (by walk_at "rho") (by walk_at "rho") G13 PLW hs8 hsok fit (by lia) hpr
    exact r
end
end
-- part P1
section
set_option maxHeartbeats 1000000
/-! ## The plain law: a graph laid out in an order -/
noncomputable def sS (sh : List (Int × Int)) (i : Int) : Int × Int := sh.getD i.toNat (0, 0)
noncomputable def sR (pss : List (List (Int × Int))) (i : Int) : List (Int × Int) := pss.getD i.toNat []
noncomputable def adr (sh : List (Int × Int)) : List Int → Int → Int
  | [], _ => 0
  | a :: r, i => if a = i then 0 else 1 + (sS sh a).2 + adr sh r i
noncomputable def tot (sh : List (Int × Int)) : List Int → Int
  | [] => 0
  | a :: r => 1 + (sS sh a).2 + tot sh r
noncomputable def wof (sh : List (Int × Int)) (o : List Int) (p : Int × Int) : Int := if p.1 < 0 then p.2 else adr sh o p.1 * 8 + 1
noncomputable def blk (sh : List (Int × Int)) (pss : List (List (Int × Int))) (o : List Int) (i : Int) : Int × List Int := (hdr (sS sh i), (sR pss i).map (wof sh o))
noncomputable def lay (sh : List (Int × Int)) (pss : List (List (Int × Int))) (o f : List Int) : List Int := flat (f.map (blk sh pss o))
structure GG (sh : List (Int × Int)) (pss : List (List (Int × Int))) : Prop where
  n8 : sh.length ≤ 8
  nd : ∀ i : Int, 0 ≤ i → i < sh.length → sh[i.toNat]? = some (sS sh i) ∧ pss[i.toNat]? = some (sR pss i) ∧ ShapeOk (sS sh i) ∧ ((sR pss i).length : Int) = (sS sh i).2 ∧ ∀ p ∈ sR pss i, PartOk sh.length p
noncomputable def Nds (sh : List (Int × Int)) (f : List Int) : Prop := ∀ a ∈ f, 0 ≤ a ∧ a < sh.length
section
variable {sh : List (Int × Int)} {pss : List (List (Int × Int))} {o f t d : List Int} {a b : Int} {p : Int × Int}
theorem gg_of (h8 : sh.length ≤ 8) (hok : ∀ s ∈ sh, ShapeOk s) (fit : Fits sh.length sh pss) : GG sh pss := by
  refine ⟨h8, fun i h0 h1 => ?_⟩
  have hl := fit.len
  have i1 : i.toNat < sh.length := by lia
  have i2 : i.toNat < pss.length := by lia
  have e1 : sh[i.toNat]? = some (sS sh i) := by unfold sS; rw [List.getD_eq_getElem?_getD, List.getElem?_eq_getElem i1]; rfl
  have e2 : pss[i.toNat]? = some (sR pss i) := by unfold sR; rw [List.getD_eq_getElem?_getD, List.getElem?_eq_getElem i2]; rfl
  obtain ⟨a, b⟩ := fit.at e1 e2
  exact ⟨e1, e2, hok _ (List.mem_of_getElem? e1), a, b⟩
theorem GG.sz (G : GG sh pss) (h : 0 ≤ a ∧ a < sh.length) : 0 ≤ (sS sh a).2 ∧ (sS sh a).2 ≤ 4 ∧ ((sR pss a).length : Int) = (sS sh a).2 :=
  have q := G.nd a h.1 h.2
  ⟨q.2.2.1.2.2.1, q.2.2.1.2.2.2.1, q.2.2.2.1⟩
theorem Nds.app (h1 : Nds sh f) (h2 : Nds sh t) : Nds sh (f ++ t) := fun a ha => (List.mem_append.mp ha).elim (h1 a) (h2 a)
theorem nodup_len : ∀ (n : Nat) (f : List Int), f.Nodup → (∀ a ∈ f, 0 ≤ a ∧ a < n) → f.length ≤ n
  | 0, [], _, _ => Nat.le_refl _
  | 0, a :: r, _, h => by have := h a (by simp); lia
  | n + 1, f, hn, h => by
    by_cases hm : (n : Int) ∈ f
    · have h1 := nodup_len n (f.erase n) (hn.erase _) fun a ha => by
        have h2 := h a (List.mem_of_mem_erase ha)
        have h3 : a ≠ n := fun e => by subst e; exact (hn.not_mem_erase) ha
        lia
      have h2 := List.length_erase_of_mem hm
      lia
    · have h1 := nodup_len n f hn fun a ha => by
        have h2 := h a ha
        have h3 : a ≠ n := fun e => by subst e; exact hm ha
        lia
      lia
theorem Nds.len (h : Nds sh f) (hn : f.Nodup) (G : GG sh pss) : f.length ≤ 8 := Nat.le_trans (nodup_len _ f hn h) G.n8
theorem tot_app : ∀ (f t : List Int), tot sh (f ++ t) = tot sh f + tot sh t
  | [], t => by simp [tot]
  | a :: r, t => by rw [List.cons_append, tot, tot, tot_app r t]; lia
theorem tot_nn (G : GG sh pss) : ∀ {f : List Int}, Nds sh f → 0 ≤ tot sh f ∧ tot sh f ≤ 5 * f.length
  | [], _ => by simp [tot]
  | a :: r, h => by
    have h1 := G.sz (h a (by simp))
    have h2 := tot_nn G (f := r) fun x hx => h x (by simp [hx])
    simp only [tot, List.length_cons]; lia
theorem tot_le (G : GG sh pss) (h : Nds sh f) (hn : f.Nodup) : 0 ≤ tot sh f ∧ tot sh f ≤ 40 := by
  have h1 := tot_nn G h
  have h2 := h.len hn G
  lia
theorem adr_app_mem : ∀ {f : List Int}, a ∈ f → ∀ t, adr sh (f ++ t) a = adr sh f a
  | [], h, _ => by cases h
  | b :: r, h, t => by
    simp only [List.cons_append, adr]
    by_cases e : b = a
    · simp [e]
    · rw [if_neg e, if_neg e, adr_app_mem (f := r) ((List.mem_cons.mp h).resolve_left fun q => e q.symm) t]
theorem adr_app_not : ∀ {f : List Int}, a ∉ f → ∀ t, adr sh (f ++ t) a = tot sh f + adr sh t a
  | [], _, t => by simp [tot]
  | b :: r, h, t => by
    simp only [List.cons_append, adr, tot]
    have e : b ≠ a := fun q => h (by simp [q])
    rw [if_neg e, adr_app_not (f := r) (fun q => h (by simp [q])) t]; lia
theorem adr_bd (G : GG sh pss) : ∀ {f : List Int}, Nds sh f → a ∈ f → 0 ≤ adr sh f a ∧ adr sh f a + 1 + (sS sh a).2 ≤ tot sh f
  | [], _, h => by cases h
  | b :: r, hf, h => by
    have h1 := G.sz (hf b (by simp))
    have h2 := (tot_nn G (f := r) fun x hx => hf x (by simp [hx])).1
    simp only [adr, tot]
    by_cases e : b = a
    · subst e; simp; lia
    · rw [if_neg e]
      have h3 := adr_bd G (f := r) (fun x hx => hf x (by simp [hx])) ((List.mem_cons.mp h).resolve_left fun q => e q.symm)
      lia
theorem adr_inj (G : GG sh pss) : ∀ {f : List Int}, Nds sh f → a ∈ f → b ∈ f → adr sh f a = adr sh f b → a = b
  | [], _, h, _, _ => by cases h
  | c :: r, hf, ha, hb, h => by
    have h1 := G.sz (hf c (by simp))
    have hr : Nds sh r := fun x hx => hf x (by simp [hx])
    simp only [adr] at h
    by_cases e1 : c = a <;> by_cases e2 : c = b
    · exact e1.symm.trans e2
    · rw [if_pos e1, if_neg e2] at h
      have := (adr_bd G hr ((List.mem_cons.mp hb).resolve_left fun q => e2 q.symm)).1
      lia
    · rw [if_neg e1, if_pos e2] at h
      have := (adr_bd G hr ((List.mem_cons.mp ha).resolve_left fun q => e1 q.symm)).1
      lia
    · rw [if_neg e1, if_neg e2] at h
      exact adr_inj G hr ((List.mem_cons.mp ha).resolve_left fun q => e1 q.symm) ((List.mem_cons.mp hb).resolve_left fun q => e2 q.symm) (by lia)
/-- blocks of the right sizes laid in an order -/
theorem flat_len (B : Int → Int × List Int) : ∀ {f : List Int}, (∀ x ∈ f, ((B x).2.length : Int) = (sS sh x).2) → ((flat (f.map B)).length : Int) = tot sh f
  | [], _ => by simp [flat, tot]
  | c :: r, h => by
    have := flat_len B (f := r) fun x hx => h x (by simp [hx])
    have h1 := h c (by simp)
    rw [List.map_cons, flat_cons_len, tot]; lia
theorem at_of (B : Int → Int × List Int) : ∀ {f : List Int}, (∀ x ∈ f, ((B x).2.length : Int) = (sS sh x).2) → a ∈ f → AtBlk (flat (f.map B)) (adr sh f a) (B a)
  | [], _, h => by cases h
  | c :: r, hB, h => by
    simp only [adr]
    by_cases e : c = a
    · subst e
      exact ⟨[], flat (r.map B), by simp [flat], by simp⟩
    · rw [if_neg e]
      obtain ⟨pre, suf, e1, e2⟩ := at_of B (f := r) (fun x hx => hB x (by simp [hx])) ((List.mem_cons.mp h).resolve_left fun q => e q.symm)
      refine ⟨(B c).1 :: (B c).2 ++ pre, suf, ?_, ?_⟩
      · rw [show flat ((c :: r).map B) = (B c).1 :: (B c).2 ++ flat (r.map B) by simp [flat], e1]; simp
      · have := hB c (by simp)
        simp; lia
theorem set_of (B : Int → Int × List Int) (v : Int) : ∀ {f : List Int}, f.Nodup → (∀ x ∈ f, ((B x).2.length : Int) = (sS sh x).2) → a ∈ f → (0 : Int) ≤ adr sh f a → (flat (f.map B)).set (adr sh f a).toNat v = flat (f.map fun x => if x = a then (v, (B x).2) else B x)
  | [], _, _, h, _ => by cases h
  | c :: r, hn, hB, h, _ => by
    have hc := hB c (by simp)
    have hnc := List.nodup_cons.mp hn
    rw [show flat ((c :: r).map B) = ((B c).1 :: (B c).2) ++ flat (r.map B) by simp [flat]]
    simp only [adr]
    by_cases e : c = a
    · subst e
      rw [if_pos rfl, List.map_cons, if_pos rfl]
      have : (r.map fun x => if x = c then (v, (B x).2) else B x) = r.map B := List.map_congr_left fun x hx => if_neg (fun q : x = c => hnc.1 (by rw [← q]; exact hx))
      rw [this]
      simp [flat]
    · have hm := (List.mem_cons.mp h).resolve_left fun q => e q.symm
      have hnn : (0 : Int) ≤ adr sh r a := by
        obtain ⟨pre, suf, _, e2⟩ := at_of B (f := r) (fun x hx => hB x (by simp [hx])) hm
        lia
      have ih := set_of B v (f := r) hnc.2 (fun x hx => hB x (by simp [hx])) hm hnn
      rw [if_neg e, List.map_cons, if_neg e, List.set_append_right _ _ (by simp; lia)]
      rw [show (1 + (sS sh c).2 + adr sh r a).toNat - ((B c).1 :: (B c).2).length = (adr sh r a).toNat by simp; lia, ih]
      simp [flat]
theorem blk_len (G : GG sh pss) (h : Nds sh f) : ∀ x ∈ f, (((blk sh pss o x).2).length : Int) = (sS sh x).2 := fun x hx => by
  have := (G.sz (h x hx)).2.2
  simp [blk]; exact this
theorem lay_len (G : GG sh pss) (h : Nds sh f) : ((lay sh pss o f).length : Int) = tot sh f := flat_len _ (blk_len G h)
theorem lay_app (f t : List Int) : lay sh pss o (f ++ t) = lay sh pss o f ++ lay sh pss o t := by simp [lay, flat]
theorem lay_one (a : Int) : lay sh pss o [a] = hdr (sS sh a) :: (sR pss a).map (wof sh o) := by simp [lay, flat, blk]
theorem lay_nil : lay sh pss o [] = [] := rfl

/-! visiting -/
noncomputable def vis (f : List Int) (p : Int × Int) : List Int := if 0 ≤ p.1 ∧ p.1 ∉ f then f ++ [p.1] else f
noncomputable def visL : List Int → List (Int × Int) → List Int
  | f, [] => f
  | f, p :: r => visL (vis f p) r
theorem vis_pre (f : List Int) (p : Int × Int) : vis f p = f ++ (vis f p).drop f.length := by
  unfold vis; split <;> simp
theorem visL_pre : ∀ (ps : List (Int × Int)) (f : List Int), ∃ t, visL f ps = f ++ t
  | [], f => ⟨[], by simp [visL]⟩
  | p :: r, f => by
    obtain ⟨t, e⟩ := visL_pre r (vis f p)
    refine ⟨(vis f p).drop f.length ++ t, ?_⟩
    rw [visL, e, ← List.append_assoc, ← vis_pre]
theorem visL_drop (ps : List (Int × Int)) (f : List Int) : visL f ps = f ++ (visL f ps).drop f.length := by
  obtain ⟨t, e⟩ := visL_pre ps f
  rw [e]; simp
theorem visL_sub (ps : List (Int × Int)) (f : List Int) : ∀ x ∈ f, x ∈ visL f ps := fun x hx => by
  rw [visL_drop]; exact List.mem_append.mpr (.inl hx)
theorem vis_mem (f : List Int) (p : Int × Int) (h : 0 ≤ p.1) : p.1 ∈ vis f p := by
  unfold vis
  split
  · simp
  · rename_i q; exact Classical.byContradiction fun n => q ⟨h, n⟩
theorem visL_mem : ∀ (ps : List (Int × Int)) (f : List Int), ∀ p ∈ ps, 0 ≤ p.1 → p.1 ∈ visL f ps
  | q :: r, f, p, hp, h0 => by
    rcases List.mem_cons.mp hp with e | hp
    · subst e; exact visL_sub r _ _ (vis_mem f p h0)
    · exact visL_mem r _ p hp h0
theorem vis_nodup (h : f.Nodup) (p : Int × Int) : (vis f p).Nodup := by
  unfold vis
  split
  · rename_i q
    rw [List.nodup_append]
    exact ⟨h, by simp, fun a ha b hb => by simp at hb; subst hb; intro e; subst e; exact q.2 ha⟩
  · exact h
theorem visL_nodup : ∀ (ps : List (Int × Int)) {f : List Int}, f.Nodup → (visL f ps).Nodup
  | [], _, h => h
  | p :: r, _, h => visL_nodup r (vis_nodup h p)
/-- what visiting adds lies in any set that holds the parts -/
theorem vis_in {C : Int → Prop} (hf : ∀ x ∈ f, C x) (hp : 0 ≤ p.1 → C p.1) : ∀ x ∈ vis f p, C x := fun x hx => by
  unfold vis at hx
  split at hx
  · rename_i q
    rcases List.mem_append.mp hx with h | h
    · exact hf x h
    · simp at h; subst h; exact hp q.1
  · exact hf x hx
theorem visL_in {C : Int → Prop} : ∀ {ps : List (Int × Int)} {f : List Int}, (∀ x ∈ f, C x) → (∀ p ∈ ps, 0 ≤ p.1 → C p.1) → ∀ x ∈ visL f ps, C x
  | [], _, hf, _ => hf
  | p :: r, _, hf, hp => visL_in (ps := r) (vis_in hf (hp p (by simp))) fun q hq => hp q (by simp [hq])
theorem wof_stable (h : 0 ≤ p.1 → p.1 ∈ f) (t : List Int) : wof sh (f ++ t) p = wof sh f p := by
  unfold wof
  split
  · rfl
  · rename_i q; rw [adr_app_mem (h (by lia))]
end
end
-- part P2
section
set_option maxHeartbeats 1000000
/-! ## Copying in the order of meeting -/
noncomputable def obl (sh : List (Int × Int)) (pss : List (List (Int × Int))) (o f : List Int) (a : Int) : Int × List Int := (if a ∈ f then adr sh f a * 8 + 6 else hdr (sS sh a), (sR pss a).map (wof sh o))
noncomputable def old_ (sh : List (Int × Int)) (pss : List (List (Int × Int))) (o f : List Int) : List Int := flat (o.map (obl sh pss o f))
/-- a part that leads into o or is plain -/
noncomputable def Into (o : List Int) (p : Int × Int) : Prop := (0 ≤ p.1 ∧ p.1 ∈ o) ∨ (p.1 < 0 ∧ PlainOk p.2)
section
variable {sh : List (Int × Int)} {pss : List (List (Int × Int))} {o f t d : List Int} {a b : Int} {p : Int × Int}
theorem obl_len (G : GG sh pss) (h : Nds sh o) : ∀ x ∈ o, (((obl sh pss o f x).2).length : Int) = (sS sh x).2 := fun x hx => by
  have := (G.sz (h x hx)).2.2
  simp [obl]; exact this
theorem hdr_nd (G : GG sh pss) (h : 0 ≤ a ∧ a < sh.length) : hdr (sS sh a) % 8 = 5 ∧ hdr (sS sh a) / 8 / 16 = (sS sh a).2 ∧ hdr (sS sh a) / 8 % 16 = (sS sh a).1 := hdr_ok (G.nd a h.1 h.2).2.2.1
theorem old_len (G : GG sh pss) (h : Nds sh o) : ((old_ sh pss o f).length : Int) = tot sh o := flat_len _ (obl_len G h)
theorem old_nil : old_ sh pss o [] = lay sh pss o o := by
  unfold old_ lay
  congr 1
theorem mw_ref (G : GG sh pss) (ho : Nds sh o) (on : o.Nodup) (hf : ∀ x ∈ f, x ∈ o) (fn : f.Nodup) (ha : a ∈ o) {new : List Int} (hnew : (new.length : Int) = tot sh f) :
    mw (old_ sh pss o f) new (adr sh o a * 8 + 1) = if a ∈ f then some (old_ sh pss o f, new, adr sh f a * 8 + 1) else some (old_ sh pss o (f ++ [a]), new ++ lay sh pss o [a], tot sh f * 8 + 1) := by
  have hfN : Nds sh f := fun x hx => ho x (hf x hx)
  have bo := adr_bd G ho ha
  have to := tot_le G ho on
  have tf := tot_le G hfN fn
  have nd := ho a ha
  have hh := hdr_nd G nd
  have hs := G.sz nd
  have A := at_of (obl sh pss o f) (obl_len (f := f) G ho) ha
  have hol := old_len (f := f) G ho
  obtain ⟨h0, hget⟩ := A.hd
  unfold mw
  rw [if_pos (by lia), show (adr sh o a * 8 + 1) / 8 = adr sh o a by lia, if_pos (by lia)]
  show (match (old_ sh pss o f)[(adr sh o a).toNat]? with | none => none | some h => _) = _
  rw [show (old_ sh pss o f)[(adr sh o a).toNat]? = some (obl sh pss o f a).1 from hget]
  dsimp only
  by_cases hm : a ∈ f
  · rw [if_pos hm]
    have : (obl sh pss o f a).1 = adr sh f a * 8 + 6 := by unfold obl; rw [if_pos hm]
    rw [this, if_pos (by lia), show (adr sh f a * 8 + 6) / 8 = adr sh f a by lia]
  · rw [if_neg hm]
    have e1 : (obl sh pss o f a).1 = hdr (sS sh a) := by unfold obl; rw [if_neg hm]
    rw [e1, if_neg (by lia), if_pos (by lia)]
    congr 1
    have e2 : (old_ sh pss o f).set (adr sh o a).toNat ((new.length : Int) * 8 + 6) = old_ sh pss o (f ++ [a]) := by
      have := set_of (sh := sh) (obl sh pss o f) ((new.length : Int) * 8 + 6) on (obl_len G ho) ha h0
      unfold old_ at this ⊢
      rw [this]
      congr 1
      refine List.map_congr_left fun x hx => ?_
      by_cases e : x = a
      · subst e
        rw [if_pos rfl]
        unfold obl
        have m : x ∈ f ++ [x] := by simp
        rw [if_pos m, adr_app_not hm]
        simp [adr, hnew]
      · rw [if_neg e]
        unfold obl
        by_cases hx2 : x ∈ f
        · rw [if_pos hx2, if_pos (by simp [hx2]), adr_app_mem hx2]
        · rw [if_neg hx2, if_neg (by simp [hx2, e])]
    have e3 : ((old_ sh pss o f).drop (adr sh o a).toNat).take (min (adr sh o a + 1 + hdr (sS sh a) / 8 / 16).toNat (old_ sh pss o f).length - (adr sh o a).toNat) = lay sh pss o [a] := by
      obtain ⟨pre, suf, q1, q2⟩ := A
      have q1' : old_ sh pss o f = pre ++ ((obl sh pss o f a).1 :: (obl sh pss o f a).2) ++ suf := q1
      have hb : (obl sh pss o f a).2.length = (sS sh a).2 := obl_len G ho a ha
      have hlen : (old_ sh pss o f).length = pre.length + (1 + (obl sh pss o f a).2.length) + suf.length := by rw [q1']; simp; lia
      rw [hh.2.1, show min (adr sh o a + 1 + (sS sh a).2).toNat (old_ sh pss o f).length - (adr sh o a).toNat = 1 + (obl sh pss o f a).2.length by lia,
        show (adr sh o a).toNat = pre.length by lia, q1', List.append_assoc, List.drop_left, List.take_left' (by simp; lia), lay_one, e1]
      rfl
    rw [e2, e3, hnew]
theorem mw_part (G : GG sh pss) (ho : Nds sh o) (on : o.Nodup) (hf : ∀ x ∈ f, x ∈ o) (fn : f.Nodup) (hp : Into o p) {new : List Int} (hnew : (new.length : Int) = tot sh f) :
    mw (old_ sh pss o f) new (wof sh o p) = some (old_ sh pss o (vis f p), new ++ lay sh pss o ((vis f p).drop f.length), wof sh (vis f p) p) := by
  rcases hp with ⟨h0, hm⟩ | ⟨h0, hm⟩
  · have e1 : wof sh o p = adr sh o p.1 * 8 + 1 := by unfold wof; rw [if_neg (by lia)]
    have e2 : ∀ f, wof sh f p = adr sh f p.1 * 8 + 1 := fun f => by unfold wof; rw [if_neg (by lia)]
    rw [e1, mw_ref G ho on hf fn hm hnew, e2]
    by_cases q : p.1 ∈ f
    · have e3 : vis f p = f := by unfold vis; rw [if_neg (fun z => z.2 q)]
      rw [if_pos q, e3]; simp [lay, flat]
    · have e3 : vis f p = f ++ [p.1] := by unfold vis; rw [if_pos ⟨h0, q⟩]
      rw [if_neg q, e3, adr_app_not q]; simp [adr]
  · have e1 : ∀ o, wof sh o p = p.2 := fun o => by unfold wof; rw [if_pos h0]
    have e2 : vis f p = f := by unfold vis; rw [if_neg (by lia)]
    rw [e1, e1, e2]
    unfold mw
    rw [if_neg (by rcases hm with h | h | h <;> lia)]
    simp [lay, flat]
theorem Into.vis (hf : ∀ x ∈ f, x ∈ o) (hp : Into o p) : ∀ x ∈ vis f p, x ∈ o := vis_in (C := fun x => x ∈ o) hf fun h0 => by
  rcases hp with h | h
  · exact h.2
  · lia
theorem Into.visL {ps : List (Int × Int)} (hf : ∀ x ∈ f, x ∈ o) (hp : ∀ p ∈ ps, Into o p) : ∀ x ∈ Mine.visL f ps, x ∈ o := visL_in (C := fun x => x ∈ o) hf fun p h h0 => by
  rcases hp p h with h | h
  · exact h.2
  · lia
theorem drop_join {f f1 f2 : List Int} (h1 : f1 = f ++ f1.drop f.length) (h2 : f2 = f1 ++ f2.drop f1.length) : lay sh pss o (f1.drop f.length) ++ lay sh pss o (f2.drop f1.length) = lay sh pss o (f2.drop f.length) := by
  rw [← lay_app]
  congr 1
  have : f2 = f ++ (f1.drop f.length ++ f2.drop f1.length) := by rw [← List.append_assoc, ← h1]; exact h2
  generalize f1.drop f.length ++ f2.drop f1.length = z at *
  rw [this]; simp
theorem visL_len (G : GG sh pss) (ho : Nds sh o) (ps : List (Int × Int)) {new : List Int} (hf : ∀ x ∈ vis f p, x ∈ o) (hnew : (new.length : Int) = tot sh f) : ((new ++ lay sh pss o ((vis f p).drop f.length)).length : Int) = tot sh (vis f p) := by
  have hd : Nds sh ((vis f p).drop f.length) := fun x hx => ho x (hf x (List.mem_of_mem_drop hx))
  have := lay_len (o := o) G hd
  have e := congrArg (tot sh) (vis_pre f p)
  rw [tot_app] at e
  simp; lia
theorem wof_visL (ps : List (Int × Int)) (hp : 0 ≤ p.1 → p.1 ∈ f) : wof sh (visL f ps) p = wof sh f p := by
  rw [visL_drop]; exact wof_stable hp _
theorem mwAll_of (G : GG sh pss) (ho : Nds sh o) (on : o.Nodup) : ∀ (ps : List (Int × Int)) (f new : List Int), (∀ x ∈ f, x ∈ o) → f.Nodup → (∀ p ∈ ps, Into o p) → (new.length : Int) = tot sh f →
    mwAll (old_ sh pss o f) new (ps.map (wof sh o)) = some (old_ sh pss o (visL f ps), new ++ lay sh pss o ((visL f ps).drop f.length), ps.map (wof sh (visL f ps)))
  | [], f, new, _, _, _, _ => by simp [mwAll, visL, lay, flat]
  | p :: r, f, new, hf, fn, hp, hnew => by
    have hp1 := hp p (by simp)
    have hf1 := Into.vis hf hp1
    rw [List.map_cons, mwAll, mw_part G ho on hf fn hp1 hnew]
    dsimp only
    rw [mwAll_of G ho on r (vis f p) _ hf1 (vis_nodup fn p) (fun q hq => hp q (by simp [hq])) (visL_len G ho [] hf1 hnew)]
    dsimp only
    rw [List.append_assoc, drop_join (vis_pre f p) (visL_drop r (vis f p)), List.map_cons, visL, wof_visL (p := p) r (vis_mem f p)]
theorem scanF_of (G : GG sh pss) (ho : Nds sh o) (on : o.Nodup) : ∀ (ps : List (Int × Int)) (f A T : List Int), (∀ x ∈ f, x ∈ o) → f.Nodup → (∀ p ∈ ps, Into o p) → ((A ++ ps.map (wof sh o) ++ T).length : Int) = tot sh f → 
    scanF ps.length (old_ sh pss o f) (A ++ ps.map (wof sh o) ++ T) A.length = some (old_ sh pss o (visL f ps), A ++ ps.map (wof sh (visL f ps)) ++ T ++ lay sh pss o ((visL f ps).drop f.length))
  | [], f, A, T, _, _, _, _ => by simp [scanF, visL, lay, flat]
  | p :: r, f, A, T, hf, fn, hp, hnew => by
    have hp1 := hp p (by simp)
    have hf1 := Into.vis hf hp1
    have tf := tot_le G (fun x hx => ho x (hf x hx)) fn
    have hg : (A ++ (p :: r).map (wof sh o) ++ T)[A.length]? = some (wof sh o p) := by simp
    rw [List.length_cons, scanF, hg]
    dsimp only
    rw [mw_part G ho on hf fn hp1 hnew]
    dsimp only
    have hl := visL_len (p := p) (f := f) (pss := pss) G ho [] hf1 hnew
    rw [if_pos (by simp at hnew ⊢; lia)]
    have es : (A ++ (p :: r).map (wof sh o) ++ T ++ lay sh pss o ((vis f p).drop f.length)).set A.length (wof sh (vis f p) p) = (A ++ [wof sh (vis f p) p]) ++ r.map (wof sh o) ++ (T ++ lay sh pss o ((vis f p).drop f.length)) := by
      rw [List.append_assoc, List.append_assoc, List.set_append_right _ _ (Nat.le_refl _), Nat.sub_self]
      simp
    rw [es]
    have ih := scanF_of G ho on r (vis f p) (A ++ [wof sh (vis f p) p]) (T ++ lay sh pss o ((vis f p).drop f.length)) hf1 (vis_nodup fn p) (fun q hq => hp q (by simp [hq])) (by rw [← hl]; simp)
    rw [List.length_append, List.length_singleton] at ih
    rw [ih]
    have e1 := drop_join (sh := sh) (pss := pss) (o := o) (vis_pre f p) (visL_drop r (vis f p))
    rw [visL, ← e1, List.map_cons, wof_visL (p := p) r (vis_mem f p)]
    simp
/-- what stands of the parts is met in o -/
noncomputable def Shut (pss : List (List (Int × Int))) (o : List Int) : Prop := ∀ a ∈ o, ∀ p ∈ sR pss a, 0 ≤ p.1 → p.1 ∈ o
theorem part_into (G : GG sh pss) (hs : ∀ p ∈ sR pss a, 0 ≤ p.1 → p.1 ∈ o) (nd : 0 ≤ a ∧ a < sh.length) : ∀ p ∈ sR pss a, Into o p := fun p hp => by
  rcases (G.nd a nd.1 nd.2).2.2.2.2 p hp with h | h
  · exact .inl ⟨h.1, hs p hp h.1⟩
  · exact .inr ⟨by lia, h.2⟩
theorem visM_of : ∀ (ps : List (Int × Int)) (f : List Int), (visL f ps).length ≤ 800 → visM ps f = some (visL f ps)
  | [], f, _ => rfl
  | p :: r, f, h => by
    rw [visL] at h
    have h2 : (vis f p).length ≤ 800 := by have := visL_drop r (vis f p); have := congrArg List.length this; simp only [List.length_append] at this; lia
    have ih := visM_of r (vis f p) h
    unfold visM
    rw [visL, ← ih]
    unfold vis at h2 ⊢
    split
    · rename_i q
      rw [if_pos q] at h2
      rw [if_pos (by simp at h2; lia)]
    · rfl
theorem scanW_of (G : GG sh pss) (ho : Nds sh o) (on : o.Nodup) (hs : Shut pss o) : ∀ (fuel : Nat) (f : List Int) (i : Nat) (ord : List Int), layW pss fuel f i = some ord → (∀ x ∈ f, x ∈ o) → f.Nodup → (∀ a ∈ f.take i, ∀ p ∈ sR pss a, 0 ≤ p.1 → p.1 ∈ f) →
    ∃ old', scanW fuel (old_ sh pss o f) (lay sh pss f (f.take i) ++ lay sh pss o (f.drop i)) (tot sh (f.take i)).toNat = some (old', lay sh pss ord ord)
  | 0, f, i, ord, h, _, _, _ => by cases h
  | fuel + 1, f, i, ord, h, hf, fn, hc => by
    have hfN : Nds sh f := fun x hx => ho x (hf x hx)
    have tf := tot_le G hfN fn
    have ht : Nds sh (f.take i) := fun x hx => hfN x (List.mem_of_mem_take hx)
    have hd : Nds sh (f.drop i) := fun x hx => hfN x (List.mem_of_mem_drop hx)
    have l1 := lay_len (o := f) G ht
    have l2 := lay_len (o := o) G hd
    have l3 := congrArg (tot sh) (List.take_append_drop i f)
    rw [tot_app] at l3
    have n1 := (tot_nn G ht).1
    have n2 := (tot_nn G hd).1
    rw [layW] at h
    split at h <;> try (cases h; done)
    rw [scanW, if_pos (by simp only [List.length_append]; lia)]
    cases hi : f[i]? with
    | none =>
      rw [hi] at h
      simp only [Option.some.injEq] at h
      subst h
      have hle := List.getElem?_eq_none_iff.mp hi
      rw [List.take_of_length_le hle] at *
      rw [List.drop_of_length_le hle] at *
      rw [lay_nil, List.append_nil, List.getElem?_eq_none (by lia)]
      exact ⟨_, rfl⟩
    | some a =>
      rw [hi] at h
      dsimp only at h
      have ham : a ∈ f := List.mem_of_getElem? hi
      have nd := hfN a ham
      have hsz := G.sz nd
      have hh := hdr_nd G nd
      have gp := (G.nd a nd.1 nd.2).2.1
      have n8 := G.n8
      rw [if_pos (by lia), gp] at h
      dsimp only at h
      have hin : ∀ p ∈ sR pss a, Into o p := part_into G (hs a (hf a ham)) nd
      have fv := Into.visL hf hin
      have vn := visL_nodup (sR pss a) fn
      have vl := Nds.len (fun x hx => ho x (fv x hx)) vn G
      rw [visM_of _ _ (by lia)] at h
      dsimp only at h
      have hil := (List.getElem?_eq_some_iff.mp hi).1
      have hdi : f.drop i = a :: f.drop (i + 1) := by rw [List.drop_eq_getElem_cons hil]; congr 1; exact (List.getElem?_eq_some_iff.mp hi).2
      have hti := take_one hi
      have el : lay sh pss o (f.drop i) = hdr (sS sh a) :: ((sR pss a).map (wof sh o) ++ lay sh pss o (f.drop (i + 1))) := by
        rw [hdi, show a :: f.drop (i + 1) = [a] ++ f.drop (i + 1) from rfl, lay_app, lay_one]; rfl
      have hg : (lay sh pss f (f.take i) ++ lay sh pss o (f.drop i))[(tot sh (f.take i)).toNat]? = some (hdr (sS sh a)) := by
        rw [el, List.getElem?_append_right (by lia), show (tot sh (f.take i)).toNat - (lay sh pss f (f.take i)).length = 0 by lia]; rfl
      rw [hg]
      dsimp only
      rw [hh.2.1, if_pos (by lia)]
      have key := scanF_of G ho on (sR pss a) f (lay sh pss f (f.take i) ++ [hdr (sS sh a)]) (lay sh pss o (f.drop (i + 1))) hf fn hin (by rw [el] at l2; simp at l2 ⊢; lia)
      rw [show (sS sh a).2.toNat = (sR pss a).length by lia, show (tot sh (f.take i)).toNat + 1 = (lay sh pss f (f.take i) ++ [hdr (sS sh a)]).length by simp; lia]
      rw [show lay sh pss f (f.take i) ++ lay sh pss o (f.drop i) = lay sh pss f (f.take i) ++ [hdr (sS sh a)] ++ (sR pss a).map (wof sh o) ++ lay sh pss o (f.drop (i + 1)) by rw [el]; simp, key]
      dsimp only
      have hdl := visL_drop (sR pss a) f
      have htake : (visL f (sR pss a)).take (i + 1) = f.take (i + 1) := by rw [hdl, List.take_append_of_le_length (by lia)]
      have hdrop : (visL f (sR pss a)).drop (i + 1) = f.drop (i + 1) ++ (visL f (sR pss a)).drop f.length := by
        conv => lhs; rw [hdl]
        rw [List.drop_append_of_le_length (by lia)]
      obtain ⟨old', ih⟩ := scanW_of G ho on hs fuel (visL f (sR pss a)) (i + 1) ord h fv vn (fun b hb p hp h0 => by
        rw [htake, hti] at hb
        rcases List.mem_append.mp hb with hb | hb
        · exact visL_sub _ _ _ (hc b hb p hp h0)
        · simp at hb; subst hb; exact visL_mem _ _ p hp h0)
      have e1 : lay sh pss (visL f (sR pss a)) (f.take i) = lay sh pss f (f.take i) := by
        unfold lay
        congr 1
        refine List.map_congr_left fun b hb => ?_
        unfold blk
        congr 1
        refine List.map_congr_left fun p hp => wof_visL _ (hc b hb p hp)
      rw [htake, hti, lay_app, e1, lay_one, hdrop, lay_app, tot_app] at ih
      refine ⟨old', ?_⟩
      rw [← ih]
      congr 1
      · simp
      · simp [tot]; lia
end
end
-- part P3
section
set_option maxHeartbeats 1000000
/-! ## What is reached -/
def Closed (sh : List (Int × Int)) (pss : List (List (Int × Int))) (C : Int → Prop) : Prop := ∀ a, C a → 0 ≤ a → a < sh.length → ∀ p ∈ sR pss a, 0 ≤ p.1 → C p.1
section
variable {sh : List (Int × Int)} {pss : List (List (Int × Int))} {o f s t d : List Int} {a b : Int} {p : Int × Int} {rts : List (Int × Int)}
theorem visL_nds (G : GG sh pss) {ps : List (Int × Int)} (hf : Nds sh f) (hp : ∀ p ∈ ps, PartOk sh.length p) : Nds sh (visL f ps) := visL_in (C := fun x => 0 ≤ x ∧ x < sh.length) hf fun p h h0 => by
  rcases hp p h with q | q
  · exact ⟨q.1, q.2.1⟩
  · lia
theorem layW_ok (G : GG sh pss) : ∀ (k : Nat) (f : List Int) (i : Nat), sh.length < k + i → i ≤ f.length → Nds sh f → f.Nodup → (∀ a ∈ f.take i, ∀ p ∈ sR pss a, 0 ≤ p.1 → p.1 ∈ f) →
    ∃ ord, layW pss k f i = some ord ∧ Nds sh ord ∧ ord.Nodup ∧ (∃ t, ord = f ++ t) ∧ Shut pss ord ∧ ∀ C : Int → Prop, Closed sh pss C → (∀ x ∈ f, C x) → ∀ x ∈ ord, C x
  | 0, f, i, hk, hi, hf, fn, hc => by have := nodup_len _ f fn hf; lia
  | k + 1, f, i, hk, hi, hf, fn, hc => by
    have fl := hf.len fn G
    have n8 := G.n8
    rw [layW, if_pos (by lia)]
    cases hg : f[i]? with
    | none =>
      have hle := List.getElem?_eq_none_iff.mp hg
      rw [List.take_of_length_le hle] at hc
      exact ⟨f, rfl, hf, fn, ⟨[], by simp⟩, hc, fun C _ h => h⟩
    | some a =>
      have ham : a ∈ f := List.mem_of_getElem? hg
      have nd := hf a ham
      have gg := G.nd a nd.1 nd.2
      dsimp only
      rw [if_pos (by lia), gg.2.1]
      dsimp only
      have vN := visL_nds G hf gg.2.2.2.2
      have vn := visL_nodup (sR pss a) fn
      have vl := vN.len vn G
      rw [visM_of _ _ (by lia)]
      dsimp only
      have hdl := visL_drop (sR pss a) f
      have hil := (List.getElem?_eq_some_iff.mp hg).1
      have hlen := congrArg List.length hdl
      rw [List.length_append] at hlen
      have htake : (visL f (sR pss a)).take (i + 1) = f.take i ++ [a] := by rw [hdl, List.take_append_of_le_length (by lia), take_one hg]
      obtain ⟨ord, e, h1, h2, ⟨t, h3⟩, h4, h5⟩ := layW_ok G k (visL f (sR pss a)) (i + 1) (by lia) (by lia) vN vn (fun b hb p hp h0 => by
        rw [htake] at hb
        rcases List.mem_append.mp hb with hb | hb
        · exact visL_sub _ _ _ (hc b hb p hp h0)
        · simp at hb; subst hb; exact visL_mem _ _ p hp h0)
      refine ⟨ord, e, h1, h2, ⟨(visL f (sR pss a)).drop f.length ++ t, by rw [← List.append_assoc, ← hdl]; exact h3⟩, h4, fun C hC hx => h5 C hC (visL_in hx fun p hp h0 => hC a (hx a ham) nd.1 nd.2 p hp h0)⟩
theorem layM_ok (G : GG sh pss) (hpr : ∀ p ∈ rts, PartOk sh.length p) :
    ∃ fuel ord, layM fuel pss rts = some ord ∧ layW pss fuel (visL [] rts) 0 = some ord ∧ Nds sh ord ∧ ord.Nodup ∧ (∃ t, ord = visL [] rts ++ t) ∧ Shut pss ord ∧ ∀ C : Int → Prop, Closed sh pss C → (∀ p ∈ rts, 0 ≤ p.1 → C p.1) → ∀ x ∈ ord, C x := by
  have vN : Nds sh (visL [] rts) := visL_nds G (fun x hx => by cases hx) hpr
  have vn := visL_nodup rts (f := []) .nil
  have vl := vN.len vn G
  obtain ⟨ord, e, h1, h2, h3, h4, h5⟩ := layW_ok G (sh.length + 1) (visL [] rts) 0 (by lia) (by lia) vN vn (fun a ha => by simp at ha)
  refine ⟨sh.length + 1, ord, ?_, e, h1, h2, h3, h4, fun C hC hp => h5 C hC (visL_in (fun x hx => by cases hx) hp)⟩
  unfold layM
  rw [visM_of _ _ (by lia)]
  exact e

/-! marking -/
theorem wof_mod (G : GG sh pss) (ho : Nds sh o) (hp : Into o p) : (wof sh o p % 8 = 1 ↔ 0 ≤ p.1) ∧ (0 ≤ p.1 → wof sh o p / 8 = adr sh o p.1) := by
  unfold wof
  rcases hp with h | h
  · rw [if_neg (by lia)]; lia
  · rw [if_pos h.1]
    refine ⟨⟨fun q => by rcases h.2 with z | z | z <;> lia, by lia⟩, by lia⟩
theorem mk_of (G : GG sh pss) (ho : Nds sh o) (hp : Into o p) (hf : ∀ x ∈ f, x ∈ o) (fl : f.length ≤ 800) (sl : s.length ≤ 800) :
    mk (f.map (adr sh o)) (s.map (adr sh o)) (wof sh o p) = some ((vis f p).map (adr sh o), (s ++ (vis f p).drop f.length).map (adr sh o)) := by
  obtain ⟨w1, w2⟩ := wof_mod G ho hp
  have tst : mkTest (f.map (adr sh o)) (wof sh o p) = true ↔ (0 ≤ p.1 ∧ p.1 ∉ f) := by
    unfold mkTest
    rw [Bool.and_eq_true, beq_iff_eq, Bool.not_eq_true', decide_eq_false_iff_not, w1]
    constructor
    · rintro ⟨h0, h1⟩
      refine ⟨h0, fun hm => h1 ?_⟩
      rw [w2 h0]; exact List.mem_map_of_mem hm
    · rintro ⟨h0, h1⟩
      refine ⟨h0, fun hm => h1 ?_⟩
      rw [w2 h0] at hm
      obtain ⟨x, hx, e⟩ := List.mem_map.mp hm
      have hpo : p.1 ∈ o := by rcases hp with q | q; exact q.2; lia
      rw [← adr_inj G ho (hf x hx) hpo e]; exact hx
  unfold mk vis
  by_cases q : 0 ≤ p.1 ∧ p.1 ∉ f
  · rw [if_pos (tst.mpr q), if_pos q, if_pos (by simp; lia), w2 q.1]
    simp
  · rw [if_neg (fun z => q (tst.mp z)), if_neg q]
    simp
theorem markL_of (G : GG sh pss) (ho : Nds sh o) (on : o.Nodup) : ∀ (ps : List (Int × Int)) (f s : List Int), (∀ p ∈ ps, Into o p) → (∀ x ∈ f, x ∈ o) → f.Nodup → s.length ≤ f.length →
    markL (ps.map (wof sh o)) (f.map (adr sh o)) (s.map (adr sh o)) = some ((visL f ps).map (adr sh o), (s ++ (visL f ps).drop f.length).map (adr sh o))
  | [], f, s, _, _, _, _ => by simp [markL, visL]
  | p :: r, f, s, hp, hf, fn, sl => by
    have hp1 := hp p (by simp)
    have hf1 := Into.vis hf hp1
    have fl := Nds.len (fun x hx => ho x (hf x hx)) fn G
    have hl := congrArg List.length (vis_pre f p)
    rw [List.length_append] at hl
    rw [List.map_cons, markL, mk_of G ho hp1 hf (by lia) (by lia)]
    dsimp only
    rw [markL_of G ho on r (vis f p) _ (fun q hq => hp q (by simp [hq])) hf1 (vis_nodup fn p) (by rw [List.length_append]; lia)]
    have h2 := visL_drop r (vis f p)
    have : visL (vis f p) r = f ++ ((vis f p).drop f.length ++ (visL (vis f p) r).drop (vis f p).length) := by rw [← List.append_assoc, ← vis_pre]; exact h2
    have e2 : (visL (vis f p) r).drop f.length = (vis f p).drop f.length ++ (visL (vis f p) r).drop (vis f p).length := by
      generalize (vis f p).drop f.length ++ (visL (vis f p) r).drop (vis f p).length = z at *
      rw [this]; simp
    rw [visL, e2, List.append_assoc]
theorem markF_eq {cells : List Int} : ∀ (ws : List Int) (i : Nat) (ks st : List Int), (∀ k, k < ws.length → cells[i + k]? = ws[k]?) → markF cells ws.length i ks st = markL ws ks st
  | [], _, _, _, _ => rfl
  | w :: r, i, ks, st, h => by
    have h0 := h 0 (by simp)
    rw [Nat.add_zero] at h0
    rw [List.length_cons, markF, markL, h0]
    simp only [List.getElem?_cons_zero]
    split
    · rfl
    · rename_i k s e
      exact markF_eq r (i + 1) k s fun j hj => by
        have := h (j + 1) (by simp; lia)
        rw [show i + 1 + j = i + (j + 1) by lia, this]; rfl
theorem at_lay (G : GG sh pss) (ho : Nds sh o) (ha : a ∈ o) : AtBlk (lay sh pss o o) (adr sh o a) (blk sh pss o a) := at_of _ (blk_len G ho) ha
theorem lay_head (G : GG sh pss) (ho : Nds sh o) (ha : a ∈ o) : (lay sh pss o o)[(adr sh o a).toNat]? = some (hdr (sS sh a)) := (at_lay G ho ha).hd.2
theorem lay_field (G : GG sh pss) (ho : Nds sh o) (ha : a ∈ o) : ∀ k, k < ((sR pss a).map (wof sh o)).length → (lay sh pss o o)[(adr sh o a).toNat + 1 + k]? = ((sR pss a).map (wof sh o))[k]? := fun k hk => by
  have A := at_lay G ho ha
  have h0 := A.hd.1
  have := A.word (i := k) (w := ((sR pss a).map (wof sh o))[k]) (List.getElem?_eq_getElem hk)
  rw [show (adr sh o a + 1 + (k : Int)).toNat = (adr sh o a).toNat + 1 + k by lia] at this
  rw [this, List.getElem?_eq_getElem hk]
theorem markW_of (G : GG sh pss) (ho : Nds sh o) (on : o.Nodup) (hs : Shut pss o) : ∀ (fuel : Nat) (f s : List Int), sh.length + s.length < fuel + f.length → (∀ x ∈ s, x ∈ f) → s.length ≤ f.length → (∀ x ∈ f, x ∈ o) → f.Nodup → (∀ a ∈ f, a ∉ s → ∀ p ∈ sR pss a, 0 ≤ p.1 → p.1 ∈ f) →
    ∃ f', markW (lay sh pss o o) fuel (f.map (adr sh o)) (s.map (adr sh o)) = some (f'.map (adr sh o)) ∧ (∀ x ∈ f', x ∈ o) ∧ f'.Nodup ∧ (∀ x ∈ f, x ∈ f') ∧ Shut pss f' ∧ ∀ C : Int → Prop, Closed sh pss C → (∀ x ∈ f, C x) → ∀ x ∈ f', C x
  | 0, f, s, hk, _, _, hf, fn, _ => by have := nodup_len _ f fn (fun x hx => ho x (hf x hx)); lia
  | fuel + 1, f, s, hk, hsf, sl, hf, fn, hc => by
    have fl := Nds.len (fun x hx => ho x (hf x hx)) fn G
    rcases List.eq_nil_or_concat s with rfl | ⟨s', a, rfl⟩
    · refine ⟨f, by simp [markW], hf, fn, fun x h => h, fun a ha => hc a ha (by simp), fun C _ h => h⟩
    · rw [List.concat_eq_append] at *
      have ham : a ∈ f := hsf a (by simp)
      have hao := hf a ham
      have nd := ho a hao
      have gg := G.nd a nd.1 nd.2
      have hh := hdr_nd G nd
      have hsz := G.sz nd
      have bd := adr_bd G ho hao
      have tt := tot_le G ho on
      have hin : ∀ p ∈ sR pss a, Into o p := part_into G (hs a hao) nd
      have fv := Into.visL hf hin
      have vn := visL_nodup (sR pss a) fn
      have hdl := visL_drop (sR pss a) f
      have hlen := congrArg List.length hdl
      rw [List.length_append] at hlen
      rw [List.length_append, List.length_singleton] at hk sl
      rw [markW, List.map_append, List.map_cons, List.map_nil, List.getLast?_concat, List.dropLast_concat]
      dsimp only
      rw [if_pos (by simp; lia), lay_head G ho hao]
      dsimp only
      rw [hh.2.1, if_pos (by lia)]
      rw [show (sS sh a).2.toNat = ((sR pss a).map (wof sh o)).length by simp; lia, markF_eq _ _ _ _ (lay_field G ho hao), markL_of G ho on _ f s' hin hf fn (by lia)]
      dsimp only
      obtain ⟨f', e, h1, h2, h3, h4, h5⟩ := markW_of G ho on hs fuel (visL f (sR pss a)) (s' ++ (visL f (sR pss a)).drop f.length) (by rw [List.length_append]; lia)
        (fun x hx => by
          rcases List.mem_append.mp hx with hx | hx
          · exact visL_sub _ _ _ (hsf x (by simp [hx]))
          · exact List.mem_of_mem_drop hx) (by rw [List.length_append]; lia) fv vn (fun b hb hnb p hp h0 => by
          by_cases e : b = a
          · subst e; exact visL_mem _ _ p hp h0
          · have hbf : b ∈ f := by
              rw [hdl] at hb
              rcases List.mem_append.mp hb with hb | hb
              · exact hb
              · exact absurd (List.mem_append.mpr (.inr hb)) hnb
            exact visL_sub _ _ _ (hc b hbf (fun q => by
              rcases List.mem_append.mp q with q | q
              · exact hnb (List.mem_append.mpr (.inl q))
              · simp at q; exact e q) p hp h0))
      exact ⟨f', e, h1, h2, fun x hx => h3 x (visL_sub _ _ _ hx), h4, fun C hC hx => h5 C hC (visL_in hx fun p hp h0 => hC a (hx a ham) nd.1 nd.2 p hp h0)⟩
theorem marked_of (G : GG sh pss) (ho : Nds sh o) (on : o.Nodup) (hs : Shut pss o) (hr : ∀ p ∈ rts, Into o p) :
    ∃ fuel f, markedM fuel (lay sh pss o o) (rts.map (wof sh o)) = some (f.map (adr sh o)) ∧ (∀ x ∈ f, x ∈ o) ∧ f.Nodup ∧ (∀ p ∈ rts, 0 ≤ p.1 → p.1 ∈ f) ∧ Shut pss f ∧ ∀ C : Int → Prop, Closed sh pss C → (∀ p ∈ rts, 0 ≤ p.1 → C p.1) → ∀ x ∈ f, C x := by
  have h0 := markL_of G ho on rts [] [] hr (fun x hx => by cases hx) .nil (Nat.le_refl _)
  have fv := Into.visL (f := []) (fun x hx => by cases hx) hr
  have vn := visL_nodup rts (f := []) .nil
  obtain ⟨f, e, h1, h2, h3, h4, h5⟩ := markW_of G ho on hs (sh.length + 1) (visL [] rts) (visL [] rts) (by lia) (fun x h => h) (Nat.le_refl _) fv vn (fun a ha hn => absurd ha hn)
  refine ⟨sh.length + 1, f, ?_, h1, h2, fun p hp q => h3 _ (visL_mem _ _ p hp q), h4, fun C hC hp => h5 C hC (visL_in (fun x hx => by cases hx) hp)⟩
  unfold markedM
  simp only [List.map_nil, List.length_nil, List.drop_zero, List.nil_append] at h0
  rw [h0]
  exact e
end
end
-- part P4
section
set_option maxHeartbeats 1000000
/-! ## Sliding -/
section
variable {sh : List (Int × Int)} {pss : List (List (Int × Int))} {o o' f s t d : List Int} {a b : Int} {p : Int × Int} {rts : List (Int × Int)}
theorem adr_sorted (G : GG sh pss) : ∀ {o : List Int}, Nds sh o → o.Nodup → (o.map (adr sh o)).Pairwise (· < ·)
  | [], _, _ => .nil
  | c :: r, ho, on => by
    have hr : Nds sh r := fun x hx => ho x (by simp [hx])
    have hc := G.sz (ho c (by simp))
    have hn := List.nodup_cons.mp on
    have ih := adr_sorted G hr hn.2
    have e : r.map (adr sh (c :: r)) = r.map (fun x => 1 + (sS sh c).2 + adr sh r x) := List.map_congr_left fun x hx => by
      rw [adr, if_neg (fun q : c = x => hn.1 (by rw [q]; exact hx))]
    rw [List.map_cons, e, List.pairwise_cons]
    refine ⟨fun y hy => ?_, ?_⟩
    · obtain ⟨x, hx, rfl⟩ := List.mem_map.mp hy
      have := (adr_bd G hr hx).1
      rw [adr, if_pos rfl]; lia
    · rw [List.pairwise_map] at ih ⊢
      exact ih.imp fun h => by lia
theorem places_of (G : GG sh pss) (ho : Nds sh o) (on : o.Nodup) : ∀ (t d : List Int), (∀ x ∈ d ++ t, x ∈ o) → (d ++ t).Nodup →
    placesM (lay sh pss o o) (t.map (adr sh o)) (tot sh d) (d.map fun a => (adr sh o a, adr sh (d ++ t) a)) = some ((d ++ t).map fun a => (adr sh o a, adr sh (d ++ t) a))
  | [], d, h, n => by simp [placesM]
  | a :: r, d, h, n => by
    have ha : a ∈ o := h a (by simp)
    have nd := ho a ha
    have hh := hdr_nd G nd
    have bd := adr_bd G ho ha
    have tt := tot_le G ho on
    have hsz := G.sz nd
    have dn : d.Nodup := (List.nodup_append.mp n).1
    have hdo : ∀ x ∈ d, x ∈ o := fun x hx => h x (by simp [hx])
    have dl := Nds.len (fun x hx => ho x (hdo x hx)) dn G
    have had : a ∉ d := fun q => (List.nodup_append.mp n).2.2 a q a (by simp) rfl
    have ea : adr sh (d ++ a :: r) a = tot sh d := by rw [adr_app_not had, adr, if_pos rfl]; lia
    have hnk : adr sh o a ∉ (d.map fun x => (adr sh o x, adr sh (d ++ a :: r) x)).map (·.1) := fun q => by
      rw [List.map_map] at q
      obtain ⟨x, hx, e⟩ := List.mem_map.mp q
      have : x = a := adr_inj G ho (hdo x hx) ha e
      subst this; exact had hx
    rw [List.map_cons, placesM, if_pos ⟨by lia, by lia, hnk, by simp; lia⟩, lay_head G ho ha]
    dsimp only
    have ih := places_of G ho on r (d ++ [a]) (fun x hx => h x (by simpa using hx)) (by simpa using n)
    rw [tot_app, show d ++ [a] ++ r = d ++ a :: r by simp, List.map_append, List.map_cons, List.map_nil, ea] at ih
    rw [← ih, hh.2.1]
    congr 1
    simp [tot]; lia
theorem look_of (G : GG sh pss) (ho : Nds sh o) (h : Int → Int) : ∀ {l : List Int}, (∀ x ∈ l, x ∈ o) → ∀ {x : Int}, x ∈ l → (l.map fun a => (adr sh o a, h a)).lookup (adr sh o x) = some (h x)
  | [], _, x, hx => by cases hx
  | c :: r, hl, x, hx => by
    rw [List.map_cons, List.lookup_cons]
    by_cases e : x = c
    · subst e; simp
    · have : (adr sh o x == adr sh o c) = false := beq_eq_false_iff_ne.mpr fun q => e (adr_inj G ho (hl x hx) (hl c (by simp)) q)
      rw [this]
      exact look_of G ho h (fun y hy => hl y (by simp [hy])) ((List.mem_cons.mp hx).resolve_left e)
theorem Into.sub (h : ∀ x ∈ o', x ∈ o) (hp : Into o' p) : Into o p := by
  rcases hp with q | q
  · exact .inl ⟨q.1, h _ q.2⟩
  · exact .inr q
theorem slidM_of (G : GG sh pss) (ho : Nds sh o) (hsub : ∀ x ∈ o', x ∈ o) (hp : Into o' p) : slidM (o'.map fun a => (adr sh o a, adr sh o' a)) (wof sh o p) = some (wof sh o' p) := by
  obtain ⟨w1, w2⟩ := wof_mod G ho (hp.sub hsub)
  unfold slidM
  rcases hp with q | q
  · rw [if_pos (w1.mpr q.1), w2 q.1, look_of G ho _ hsub q.2]
    unfold wof
    rw [if_neg (by lia)]; rfl
  · rw [if_neg (fun z => by have := w1.mp z; lia)]
    unfold wof
    rw [if_pos q.1, if_pos q.1]
theorem slideF_of (G : GG sh pss) (ho : Nds sh o) (hsub : ∀ x ∈ o', x ∈ o) {cells : List Int} : ∀ (qs : List (Int × Int)) (i : Nat) (new : List Int), (∀ k, k < (qs.map (wof sh o)).length → cells[i + k]? = (qs.map (wof sh o))[k]?) → (∀ p ∈ qs, Into o' p) → new.length + qs.length ≤ 800 → i + qs.length ≤ 2000 →
    slideF cells (o'.map fun a => (adr sh o a, adr sh o' a)) qs.length i new = some (new ++ qs.map (wof sh o'))
  | [], _, _, _, _, _, _ => by simp [slideF]
  | p :: r, i, new, hc, hp, h1, h2 => by
    have h0 := hc 0 (by simp)
    rw [Nat.add_zero] at h0
    rw [List.length_cons] at h1 h2
    rw [List.length_cons, slideF, h0]
    simp only [List.map_cons, List.getElem?_cons_zero]
    rw [slidM_of G ho hsub (hp p (by simp))]
    dsimp only
    rw [if_pos (by lia), slideF_of G ho hsub r (i + 1) _ (fun k hk => by
      have := hc (k + 1) (by simp at hk ⊢; lia)
      rw [show i + 1 + k = i + (k + 1) by lia, this]; rfl) (fun q hq => hp q (by simp [hq])) (by rw [List.length_append, List.length_singleton]; lia) (by lia)]
    simp
theorem slideW_of (G : GG sh pss) (ho : Nds sh o) (on : o.Nodup) (hsub : ∀ x ∈ o', x ∈ o) (on' : o'.Nodup) (hs : Shut pss o') : ∀ (t d : List Int), o' = d ++ t →
    slideW (lay sh pss o o) (o'.map fun a => (adr sh o a, adr sh o' a)) (t.map fun a => (adr sh o a, adr sh o' a)) (lay sh pss o' d) = some (lay sh pss o' o')
  | [], d, e => by rw [List.append_nil] at e; rw [← e]; rfl
  | a :: r, d, e => by
    have hao' : a ∈ o' := by rw [e]; simp
    have ha := hsub a hao'
    have nd := ho a ha
    have hh := hdr_nd G nd
    have bd := adr_bd G ho ha
    have tt := tot_le G ho on
    have hsz := G.sz nd
    have ho' : Nds sh o' := fun x hx => ho x (hsub x hx)
    have tt' := tot_le G ho' on'
    have hd : Nds sh d := fun x hx => ho' x (by rw [e]; simp [hx])
    have ld := lay_len (o := o') G hd
    have et : tot sh o' = tot sh d + (1 + (sS sh a).2 + tot sh r) := by rw [e, tot_app]; rfl
    have tr := (tot_nn G (f := r) fun x hx => ho' x (by rw [e]; simp [hx])).1
    have hin : ∀ p ∈ sR pss a, Into o' p := part_into G (hs a hao') nd
    rw [List.map_cons, slideW, if_pos (by lia), lay_head G ho ha]
    dsimp only
    rw [hh.2.1, if_pos (by lia), show (sS sh a).2.toNat = (sR pss a).length by lia, slideF_of G ho hsub (sR pss a) _ _ (lay_field G ho ha) hin (by rw [List.length_append, List.length_singleton]; lia) (by lia)]
    dsimp only
    have ih := slideW_of G ho on hsub on' hs r (d ++ [a]) (by rw [e]; simp)
    rw [lay_app, lay_one] at ih
    rw [← ih]
    simp
theorem slidAll_of (G : GG sh pss) (ho : Nds sh o) (hsub : ∀ x ∈ o', x ∈ o) : ∀ (qs : List (Int × Int)), (∀ p ∈ qs, Into o' p) → slidAll (o'.map fun a => (adr sh o a, adr sh o' a)) (qs.map (wof sh o)) = some (qs.map (wof sh o'))
  | [], _ => rfl
  | p :: r, hp => by
    rw [List.map_cons, slidAll, slidM_of G ho hsub (hp p (by simp))]
    dsimp only
    rw [slidAll_of G ho hsub r fun q hq => hp q (by simp [hq])]
    rfl
theorem slide_spec (G : GG sh pss) (ho : Nds sh o) (on : o.Nodup) (hs : Shut pss o) (hr : ∀ p ∈ rts, Into o p) {ord : List Int} (os : Shut pss ord) (or_ : ∀ p ∈ rts, 0 ≤ p.1 → p.1 ∈ ord)
    (om : ∀ C : Int → Prop, Closed sh pss C → (∀ p ∈ rts, 0 ≤ p.1 → C p.1) → ∀ x ∈ ord, C x) (e : o' = o.filter fun x => decide (x ∈ ord)) :
    SlideSpec (lay sh pss o o) (rts.map (wof sh o)) (lay sh pss o' o') (rts.map (wof sh o')) := by
  obtain ⟨fuel, f, hm, f1, f2, f3, f4, f5⟩ := marked_of G ho on hs hr
  have same : ∀ x, x ∈ f ↔ x ∈ ord := fun x => ⟨fun h => f5 (fun y => y ∈ ord) (fun a ha _ _ p hp h0 => os a ha p hp h0) or_ x h, fun h => om (fun y => y ∈ f) (fun a ha _ _ p hp h0 => f4 a ha p hp h0) f3 x h⟩
  have mem' : ∀ x, x ∈ o' ↔ x ∈ f := fun x => by
    rw [e, List.mem_filter]
    constructor
    · intro h; exact (same x).mpr (by simpa using h.2)
    · intro h; exact ⟨f1 x h, by simpa using (same x).mp h⟩
  have on' : o'.Nodup := by rw [e]; exact List.Pairwise.filter _ on
  have hsub : ∀ x ∈ o', x ∈ o := fun x h => f1 x ((mem' x).mp h)
  have perm : o'.Perm f := (List.perm_ext_iff_of_nodup on' f2).mpr mem'
  have hs' : Shut pss o' := fun a ha p hp h0 => (mem' _).mpr (f4 a ((mem' a).mp ha) p hp h0)
  have hr' : ∀ p ∈ rts, Into o' p := fun p hp => by
    rcases hr p hp with q | q
    · exact .inl ⟨q.1, (mem' _).mpr (f3 p hp q.1)⟩
    · exact .inr q
  have fl := Nds.len (fun x hx => ho x (f1 x hx)) f2 G
  refine ⟨fuel, _, o'.map (adr sh o), o'.map fun a => (adr sh o a, adr sh o' a), hm, by simp; lia, perm.map _, ?_, ?_, slideW_of G ho on hsub on' hs' o' [] rfl, slidAll_of G ho hsub rts hr'⟩
  · have := adr_sorted G ho on
    rw [e]
    rw [List.pairwise_map] at this ⊢
    exact (List.Pairwise.filter _ this).imp fun h => Int.le_of_lt h
  · have := places_of (pss := pss) G ho on o' [] (by simpa using hsub) (by simpa using on')
    simpa [tot] using this

/-! copying again -/
theorem collect_spec (G : GG sh pss) (ho : Nds sh o) (on : o.Nodup) (hs : Shut pss o) (hr : ∀ p ∈ rts, Into o p) {ord : List Int} {fuel : Nat} (hl : layW pss fuel (visL [] rts) 0 = some ord) (hpre : ∃ t, ord = visL [] rts ++ t) :
    CollectSpec (lay sh pss o o) (rts.map (wof sh o)) (lay sh pss ord ord) (rts.map (wof sh ord)) := by
  have fv := Into.visL (f := []) (fun x hx => by cases hx) hr
  have vn := visL_nodup rts (f := []) .nil
  have h0 := mwAll_of G ho on rts [] [] (fun x hx => by cases hx) .nil hr (by simp [tot])
  obtain ⟨old', h1⟩ := scanW_of G ho on hs fuel (visL [] rts) 0 ord hl fv vn (fun a ha => by simp at ha)
  refine ⟨fuel, old', ?_⟩
  unfold collectM
  rw [old_nil] at h0
  simp only [List.length_nil, List.drop_zero, List.nil_append] at h0
  rw [h0]
  dsimp only
  rw [List.take_zero, List.drop_zero, lay_nil, List.nil_append] at h1
  rw [show (0 : Nat) = (tot sh []).toNat from rfl, h1]
  dsimp only
  obtain ⟨t, e⟩ := hpre
  have : rts.map (wof sh (visL [] rts)) = rts.map (wof sh ord) := List.map_congr_left fun p hp => by rw [e, wof_stable fun h0 => visL_mem rts [] p hp h0]
  rw [this]

/-! the law's own reckoning -/
theorem there_of (G : GG sh pss) : ∀ (t d : List Int), Nds sh (d ++ t) → (d ++ t).Nodup →
    thereM sh t (tot sh d) (d.map fun a => (a, adr sh (d ++ t) a * 8 + 1)) = some ((d ++ t).map fun a => (a, adr sh (d ++ t) a * 8 + 1))
  | [], d, h, n => by simp [thereM]
  | a :: r, d, h, n => by
    have nd := h a (by simp)
    have gg := G.nd a nd.1 nd.2
    have n8 := G.n8
    have dn : d.Nodup := (List.nodup_append.mp n).1
    have dl := Nds.len (sh := sh) (f := d) (fun x hx => h x (by simp [hx])) dn G
    have had : a ∉ d := fun q => (List.nodup_append.mp n).2.2 a q a (by simp) rfl
    have ea : adr sh (d ++ a :: r) a = tot sh d := by rw [adr_app_not had, adr, if_pos rfl]; lia
    have hnk : a ∉ (d.map fun x => (x, adr sh (d ++ a :: r) x * 8 + 1)).map (·.1) := by rw [List.map_map]; simpa using had
    rw [thereM, if_pos ⟨by lia, by lia, hnk, by simp; lia⟩, gg.1]
    dsimp only
    have ih := there_of G r (d ++ [a]) (by simpa using h) (by simpa using n)
    rw [tot_app, show d ++ [a] ++ r = d ++ a :: r by simp, List.map_append, List.map_cons, List.map_nil, ea] at ih
    rw [← ih]
    congr 1
    simp [tot]; lia
theorem look2 (h : Int → Int) : ∀ {l : List Int} {x : Int}, x ∈ l → (l.map fun a => (a, h a)).lookup x = some (h x)
  | c :: r, x, hx => by
    rw [List.map_cons, List.lookup_cons]
    by_cases e : x = c
    · subst e; simp
    · have : (x == c) = false := beq_eq_false_iff_ne.mpr e
      rw [this]; exact look2 h ((List.mem_cons.mp hx).resolve_left e)
theorem word_of (hp : Into o p) : wordM (o.map fun a => (a, adr sh o a * 8 + 1)) p = some (wof sh o p) := by
  unfold wordM wof
  rcases hp with q | q
  · rw [if_neg (by lia), if_neg (by lia), look2 (fun a => adr sh o a * 8 + 1) q.2]
  · rw [if_pos q.1, if_pos q.1]
theorem words_of : ∀ (ps : List (Int × Int)), (∀ p ∈ ps, Into o p) → wordsM (o.map fun a => (a, adr sh o a * 8 + 1)) ps = some (ps.map (wof sh o))
  | [], _ => rfl
  | p :: r, h => by
    rw [wordsM, word_of (h p (by simp))]
    dsimp only
    rw [words_of r fun q hq => h q (by simp [hq])]
    rfl
theorem cells_of (G : GG sh pss) (ho : Nds sh o) (on : o.Nodup) (hs : Shut pss o) : ∀ (t d : List Int), o = d ++ t → cellsM sh pss (o.map fun a => (a, adr sh o a * 8 + 1)) t (lay sh pss o d) = some (lay sh pss o o)
  | [], d, e => by rw [List.append_nil] at e; rw [← e]; rfl
  | a :: r, d, e => by
    have ha : a ∈ o := by rw [e]; simp
    have nd := ho a ha
    have gg := G.nd a nd.1 nd.2
    have n8 := G.n8
    have hsz := G.sz nd
    have hd : Nds sh d := fun x hx => ho x (by rw [e]; simp [hx])
    have dn : d.Nodup := by rw [e] at on; exact (List.nodup_append.mp on).1
    have ld := lay_len (o := o) G hd
    have td := tot_le G hd dn
    rw [cellsM, if_pos (by lia), gg.1, gg.2.1]
    dsimp only
    rw [words_of _ (part_into G (hs a ha) nd)]
    dsimp only
    rw [if_pos (by simp; lia)]
    have ih := cells_of G ho on hs r (d ++ [a]) (by rw [e]; simp)
    rw [lay_app, lay_one] at ih
    rw [← ih]
    simp
theorem offs_of : ∀ (B : Int → Int × List Int) {f : List Int} (k : Int), (∀ x ∈ f, ((B x).2.length : Int) = (sS sh x).2) → f.Nodup → offs k (f.map B) = f.map fun x => k + adr sh f x
  | B, [], k, _, _ => rfl
  | B, c :: r, k, h, n => by
    have hn := List.nodup_cons.mp n
    rw [List.map_cons, offs, offs_of B (f := r) _ (fun x hx => h x (by simp [hx])) hn.2, List.map_cons]
    congr 1
    · simp [adr]
    · refine List.map_congr_left fun x hx => ?_
      rw [adr, if_neg (fun q : c = x => hn.1 (by rw [q]; exact hx)), h c (by simp)]; lia
theorem ok_of (G : GG sh pss) (ho : Nds sh o) (on : o.Nodup) (hs : Shut pss o) : ∀ b ∈ o.map (blk sh pss o), BlkOk (offs 0 (o.map (blk sh pss o))) b := by
  rw [offs_of (sh := sh) _ 0 (blk_len G ho) on]
  intro b hb
  obtain ⟨a, ha, rfl⟩ := List.mem_map.mp hb
  have nd := ho a ha
  have gg := G.nd a nd.1 nd.2
  have hh := hdr_nd G nd
  have hl := blk_len (o := o) G ho a ha
  refine ⟨hh.1, ?_, ?_, ?_, ?_⟩
  · rw [hl]; exact hh.2.1
  · show hdr (sS sh a) / 8 % 16 < 8
    rw [hh.2.2]; exact gg.2.2.1.2.1
  · show 0 ≤ kszs (hdr (sS sh a) / 8 % 16) → _
    rw [hl, show (blk sh pss o a).1 = hdr (sS sh a) from rfl, hh.2.2]; exact gg.2.2.1.2.2.2.2
  · intro w hw
    obtain ⟨p, hp, rfl⟩ := List.mem_map.mp hw
    have hi := part_into G (hs a ha) nd p hp
    obtain ⟨w1, w2⟩ := wof_mod G ho hi
    have k56 : wof sh o p % 8 ≠ 5 ∧ wof sh o p % 8 ≠ 6 := by
      unfold wof
      rcases hi with q | q
      · rw [if_neg (by lia)]; lia
      · rw [if_pos q.1]; rcases q.2 with z | z | z <;> lia
    refine ⟨k56.1, k56.2, fun h1 => ?_⟩
    have h0 := w1.mp h1
    rw [w2 h0]
    rcases hi with q | q
    · exact List.mem_map.mpr ⟨p.1, q.2, by lia⟩
    · lia
end
end
-- part P5
section
set_option maxHeartbeats 1000000
noncomputable def full (n : Nat) : List Int := (List.range n).map fun (i : Nat) => (i : Int)
section
variable {sh : List (Int × Int)} {pss : List (List (Int × Int))} {o o' f s t d : List Int} {a b : Int} {p : Int × Int} {rts : List (Int × Int)}
theorem full_mem {n : Nat} : a ∈ full n ↔ 0 ≤ a ∧ a < n := by
  unfold full
  rw [List.mem_map]
  constructor
  · rintro ⟨i, hi, rfl⟩
    have := List.mem_range.mp hi
    lia
  · rintro ⟨h0, h1⟩
    exact ⟨a.toNat, List.mem_range.mpr (by lia), by lia⟩
theorem full_lt (n : Nat) : (full n).Pairwise (· < ·) := by
  unfold full
  rw [List.pairwise_map]
  exact List.pairwise_lt_range.imp fun h => by lia
theorem full_nodup (n : Nat) : (full n).Nodup := (full_lt n).imp fun h => by lia
theorem full_at {n i : Nat} (h : i < n) : (full n)[i]? = some (i : Int) := by simp [full, h]
theorem full_len (n : Nat) : (full n).length = n := by simp [full]
theorem adr_at : ∀ {o : List Int} {k : Nat}, o.Nodup → o[k]? = some a → adr sh o a = tot sh (o.take k)
  | [], k, _, h => by simp at h
  | c :: r, 0, n, h => by simp at h; subst h; simp [adr, tot]
  | c :: r, k + 1, n, h => by
    have hn := List.nodup_cons.mp n
    rw [List.getElem?_cons_succ] at h
    have hm := List.mem_of_getElem? h
    rw [adr, if_neg (fun q : c = a => hn.1 (by rw [q]; exact hm)), adr_at hn.2 h, List.take_succ_cons, tot]
theorem tot_full (G : GG sh pss) : ∀ i : Nat, i ≤ sh.length → tot sh ((full sh.length).take i) = ((flat (zb (sh.take i))).length : Int)
  | 0, _ => rfl
  | i + 1, h => by
    have nd := G.nd (i : Int) (by lia) (by lia)
    have e := nd.1
    rw [Int.toNat_natCast] at e
    have h2 := nd.2.2.1.2.2.1
    rw [take_one (full_at (by lia)), take_one e, tot_app, tot_full G i (by lia), zb_app, flat_app, List.length_append, show zb [sS sh (i : Int)] = [(hdr (sS sh (i : Int)), List.replicate (sS sh (i : Int)).2.toNat 0)] from rfl, flat_cons_len]
    simp [tot, flat]; lia
theorem adr_full (G : GG sh pss) {i : Nat} (h : i < sh.length) : adr sh (full sh.length) (i : Int) = ((flat (zb (sh.take i))).length : Int) := by
  rw [adr_at (full_nodup _) (full_at h), tot_full G i (by lia)]
theorem wofs_full (G : GG sh pss) (hok : ∀ s ∈ sh, ShapeOk s) : wofs 0 sh = (full sh.length).map fun a => adr sh (full sh.length) a * 8 + 1 := by
  refine List.ext_getElem? fun i => ?_
  by_cases h : i < sh.length
  · rw [wofs_at hok h, List.getElem?_map, full_at h, Option.map_some, adr_full G h]
  · rw [List.getElem?_eq_none (by rw [wofs_len]; lia), List.getElem?_eq_none (by rw [List.length_map, full_len]; lia)]
theorem wd_full (G : GG sh pss) (hok : ∀ s ∈ sh, ShapeOk s) (hp : PartOk sh.length p) : wd (wofs 0 sh) p = wof sh (full sh.length) p := by
  unfold wd wof
  rcases hp with h | h
  · rw [if_neg (by lia), if_neg (by lia), wofs_full G hok, List.getD_eq_getElem?_getD, List.getElem?_map, full_at (i := p.1.toNat) (by lia), Option.map_some, Option.getD_some, Int.toNat_of_nonneg h.1]
  · rw [if_pos (by lia), if_pos (by lia)]
theorem fb_at (words : List Int) : ∀ {ss : List (Int × Int)} {ps : List (List (Int × Int))}, ss.length = ps.length → ∀ (i : Nat) (s : Int × Int) (r : List (Int × Int)), ss[i]? = some s → ps[i]? = some r → (fb words ss ps)[i]? = some (hdr s, r.map (wd words))
  | a :: ss, b :: ps, hl, 0, s, r, h1, h2 => by simp at h1 h2; subst h1; subst h2; rfl
  | a :: ss, b :: ps, hl, i + 1, s, r, h1, h2 => by
    rw [show fb words (a :: ss) (b :: ps) = (hdr a, b.map (wd words)) :: fb words ss ps from rfl, List.getElem?_cons_succ]
    exact fb_at words (by simpa using hl) i s r (by simpa using h1) (by simpa using h2)
  | [], _, _, _, _, _, h, _ => by simp at h
  | _ :: _, [], _, _, _, _, _, h => by simp at h
theorem fb_length (words : List Int) : ∀ {ss : List (Int × Int)} {ps : List (List (Int × Int))}, ss.length = ps.length → (fb words ss ps).length = ss.length
  | [], [], _ => rfl
  | a :: ss, b :: ps, h => by
    rw [show fb words (a :: ss) (b :: ps) = (hdr a, b.map (wd words)) :: fb words ss ps from rfl, List.length_cons, fb_length words (by simpa using h), List.length_cons]
  | [], _ :: _, h => by simp at h
  | _ :: _, [], h => by simp at h
theorem fb_full (G : GG sh pss) (hok : ∀ s ∈ sh, ShapeOk s) (hl : sh.length = pss.length) : fb (wofs 0 sh) sh pss = (full sh.length).map (blk sh pss (full sh.length)) := by
  refine List.ext_getElem? fun i => ?_
  by_cases h : i < sh.length
  · have nd := G.nd (i : Int) (by lia) (by lia)
    have e1 := nd.1
    have e2 := nd.2.1
    rw [Int.toNat_natCast] at e1 e2
    rw [fb_at _ hl i _ _ e1 e2, List.getElem?_map, full_at h, Option.map_some]
    unfold blk
    congr 2
    exact List.map_congr_left fun p hp => wd_full G hok (nd.2.2.2.2 p hp)
  · rw [List.getElem?_eq_none (by rw [fb_length _ hl]; lia), List.getElem?_eq_none (by rw [List.length_map, full_len]; lia)]
theorem into_full (hp : PartOk sh.length p) : Into (full sh.length) p := by
  rcases hp with h | h
  · exact .inl ⟨h.1, full_mem.mpr ⟨h.1, h.2.1⟩⟩
  · exact .inr ⟨by lia, h.2⟩
end

theorem plain_law (shapes : List (Int × Int)) (pss : List (List (Int × Int))) (rts : List (Int × Int)) (hs1 : 1 ≤ shapes.length) (hs8 : shapes.length ≤ 8) (hok : ∀ p ∈ shapes, ShapeOk p) (fit : Fits shapes.length shapes pss) (hr4 : rts.length ≤ 4) (hpr : ∀ p ∈ rts, PartOk shapes.length p) :
    ∃ fuel order tM mbs mws, layM fuel pss rts = some order ∧ order.length < 64 ∧ thereM shapes order 0 [] = some tM ∧ cellsM shapes pss tM order [] = some (flat mbs) ∧ wordsM tM rts = some mws ∧ (flat mbs).length ≤ 400 ∧
      ∀ srt, srt.Perm order → srt.Pairwise (· ≤ ·) → ∃ tS sbs sws, PlainLaw shapes pss rts order srt tM tS mbs sbs mws sws := by
  have G := gg_of hs8 hok fit
  obtain ⟨fuel, ord, hlay, hlw, oN, on, opre, os, om⟩ := layM_ok G hpr
  have omem : ∀ p ∈ rts, 0 ≤ p.1 → p.1 ∈ ord := fun p hp h0 => by
    obtain ⟨t, e⟩ := opre
    rw [e]; exact List.mem_append.mpr (.inl (visL_mem rts [] p hp h0))
  have into : ∀ {o : List Int}, (∀ x ∈ ord, x ∈ o) → ∀ p ∈ rts, Into o p := fun h p hp => by
    rcases hpr p hp with q | q
    · exact .inl ⟨q.1, h _ (omem p hp q.1)⟩
    · exact .inr ⟨by lia, q.2⟩
  have ol := oN.len on G
  have z : ∀ {o f : List Int}, Nds shapes f → f.Nodup → (flat (f.map (blk shapes pss o))).length ≤ 400 := fun {o f} h n => by
    have h1 := lay_len (o := o) G h
    have h2 := tot_le G h n
    unfold lay at h1
    lia
  have t1 := there_of G ord [] (by simpa using oN) (by simpa using on)
  have c1 := cells_of G oN on os ord [] rfl
  have w1 := words_of (sh := shapes) rts (into fun x h => h)
  refine ⟨fuel, ord, _, ord.map (blk shapes pss ord), _, hlay, by lia, t1, c1, w1, z oN on, fun srt sp ss => ?_⟩
  have smem : ∀ x, x ∈ srt ↔ x ∈ ord := fun x => sp.mem_iff
  have sn : srt.Nodup := (sp.nodup_iff).mpr on
  have sN : Nds shapes srt := fun x h => oN x ((smem x).mp h)
  have shut : Shut pss srt := fun a ha p hp h0 => (smem _).mpr (os a ((smem a).mp ha) p hp h0)
  have fN : Nds shapes (full shapes.length) := fun x h => full_mem.mp h
  have fn := full_nodup shapes.length
  have fs : Shut pss (full shapes.length) := fun a ha p hp h0 => by
    have nd := fN a ha
    rcases (G.nd a nd.1 nd.2).2.2.2.2 p hp with q | q
    · exact full_mem.mpr ⟨q.1, q.2.1⟩
    · lia
  have of_ : ∀ x ∈ ord, x ∈ full shapes.length := fun x h => full_mem.mpr (oN x h)
  have hf : srt = (full shapes.length).filter fun x => decide (x ∈ ord) := by
    refine List.Perm.eq_of_pairwise (le := (· ≤ ·)) (fun a b _ _ h1 h2 => by lia) ss ((List.Pairwise.filter _ (full_lt _)).imp fun h => by lia) ((List.perm_ext_iff_of_nodup sn (List.Pairwise.filter _ fn)).mpr fun x => ?_)
    rw [List.mem_filter, smem]
    exact ⟨fun h => ⟨of_ x h, by simpa using h⟩, fun h => by simpa using h.2⟩
  have hf2 : srt = srt.filter fun x => decide (x ∈ ord) := (List.filter_eq_self.mpr fun x hx => by simpa using (smem x).mp hx).symm
  have hwd : rts.map (wd (wofs 0 shapes)) = rts.map (wof shapes (full shapes.length)) := List.map_congr_left fun p hp => wd_full G hok (hpr p hp)
  have hfb := fb_full G hok fit.len.symm
  have t2 := there_of G srt [] (by simpa using sN) (by simpa using sn)
  have c2 := cells_of G sN sn shut srt [] rfl
  have w2 := words_of (sh := shapes) rts (into fun x h => (smem x).mpr h)
  refine ⟨srt.map fun a => (a, adr shapes srt a * 8 + 1), srt.map (blk shapes pss srt), rts.map (wof shapes srt), ?_⟩
  exact {
    lay := ⟨fuel, hlay⟩
    len := by lia
    tm := t1
    cm := c1
    wm := w1
    ts := t2
    cs := c2
    ws := w2
    okM := ok_of G oN on os
    okS := ok_of G sN sn shut
    okH := by rw [hfb]; exact ok_of G fN fn fs
    zM := z oN on
    zS := z sN sn
    zH := by rw [hfb]; exact z fN fn
    sl1 := by rw [hfb, hwd]; exact slide_spec G fN fn fs (into of_) os omem om hf
    sl2 := slide_spec G sN sn shut (into fun x h => (smem x).mpr h) os omem om hf2
    co1 := by rw [hfb, hwd]; exact collect_spec G fN fn fs (into of_) hlw opre
    co2 := collect_spec G oN on os (into fun x h => h) hlw opre
    mlen := by simp
    slen := by simp }
end
-- part H6
section
set_option maxRecDepth 100000
theorem h_row (said : rowE.wellSaid = true) : rowE.Holds := by
  refine holds_open (q := vw) (loose := ["TRUE"]) (Xt := xt) (XP := XL vw vl) (Yf := hook.obs) (Ya := hook.val) (YP := hook.says) (N := 5192) h_left hook.of hook.keeps (fun s e => xl_of s (Bool.and_eq_true_iff.mp e).1) XL.keeps (by rfl) (by rfl) (by rfl) (fun s e => recFacts_of (Bool.and_eq_true_iff.mp e).2) (by rfl) said (by decide +kernel) ⟨rfl, rfl, rfl, rfl, rfl, by decide +kernel⟩ ?hw ?hc
  case hw => w_witness2
  intro w s₀ s₁ mg mb G Y fa o pm cd doc dV kV ho hd_ hcd hD hmg hg args vals as hpre hlay hrd hwl hlo
  have KX := kIn_of Y
  refine Ground.open G ?_
  intro T B D TE TW
  clear B D TE TW hd_ hcd hD ho
  have hmg' : mg "law" = some (.ref fa) := hmg
  clear hmg
  have efa : mg "law" = some (.ref 396) := mg_some KX T.g (by kernel_rfl)
  rw [hmg'] at efa
  cases efa
  wrow_args hpre hlay hrd hwl hlo
  rename_i ns hs1 hs2 hs3 hs4 hs5 a4 a3 l vs as1 hL ra w1 r0 hI hr hc hc2
  have ok : Cx.Ok ⟨PySem.Challenge.rw_nt0174_01.row.prog, w, s₁.heap, K w.params, mg, mb⟩ := ⟨KX, T.g, T.b, T.nolimit, T.builtins⟩
  have W := facts_of ok rfl
  have X := fx_of ok rfl
  have main := f_law (A := callerA) (g := fun _ => none) (l := l) (vs := vs) (ns := ns) W X ⟨by decide, by decide, rfl⟩ rfl (fun _ => LIn.base hL) hI (by lia) plain_law s₁ (fun b o e => ⟨e, rfl⟩) (fun b ao e => by cases e)
  refine wpAny_mono main (fun v s' q => ?_) (fun _ _ z => z.elim)
  obtain ⟨g', st, rfl⟩ := q
  refine GoodW.toG ⟨.inl ⟨_, .bool true, [], rfl, ?_, ReadsW.bool _, ?_, ?_⟩, fun b o e => (st.out b o e rfl).1, st.os, st.gens.trans hg⟩
  · exact raisesW_false (by wrow_none_raised)
  · first | rfl | wrow_post
  · exact fun _ => ⟨.nil, fun a ha => by cases ha⟩
theorem tw_law : @OpenLaw.wellSaid = @PySem.W.Fast.tw9446332074065402090 := PySem.W.Fast.te9446332074065402090
theorem law_said : PySem.Challenge.rw_nt0174_01.wellSaid = true := by rw [tw_law]; kernel_rfl
theorem holds : PySem.Challenge.rw_nt0174_01.Holds := holds_law law_said h_row
end
end Mine
theorem PySem.Challenge.cw_nt0174_01_holds : PySem.Challenge.rw_nt0174_01.Holds := by
  exact Mine.holds
