import PyProof.Rows.All
import Wide.All
import OpenK.AllK
import Wide.FinOn
import HandS.ForMost
import HandS.ForExc
import HandS.EndTab
import HandS.Wide
import HandS.WideBits
import HandS.TupAny
import HandS.Style
import HandS.IsInst
import PyProof.CallFns
import HandS.Deep
import HandS.Zip
import KE.GoesMore
import HandS.ExcIs
import HandS.Small
import KE.DataFind
import KE.KExcIs
import HandS.Lambda
import KE.KNestM
import Wide.Loose
import KE.KDflt
import KE.GoesEnum
import HandS.Iter
import PyProof.Rows.ReprOcc
import PySem.Challenge.RW_roundwarrant_k72_whole_backing_shown
section
set_option Elab.async false
set_option linter.all false
set_option maxRecDepth 100000
set_option maxHeartbeats 2000000
/-! Mi: values as trees, lists that change in a store, and what it means that the machine's state stands for them. -/
namespace Mi
open PySem PySem.Spec PyProof.Rows L2

/-- a value: trees; nl, nd: a list, a dict that nobody changes; ref: a list that is changed, by its number; glb: a def or class of the module -/
inductive PV where
  | non | bl (b : Bool) | int (i : Int) | str (s : Str)
  | tup (xs : List PV) | ct (xs : List PV) | nl (xs : List PV) | fl (xs : List PV) | nd (ks : List Key) (vs : List PV)
  | ref (n : Nat) | ty (n : String) | glb (x : Str) | err | lam
  deriving Inhabited
/-- what stands in the store -/
inductive SO where
  | lst (xs : List PV)
  | dT (ks : List (List Int))
  | fz (ks : List (List Int))
abbrev Sto := List SO
abbrev EnP := List (Option PV)
/-- an answer of an expression: a value, an error of a class with its fields, or nothing is said -/
inductive Res (α : Type) where
  | ok (a : α) (S : Sto)
  | exc (c : Str) (fs : List (Str × PV)) (S : Sto)
  | bad
/-- an answer of a block -/
inductive SR where
  | nx (ρ : EnP) (S : Sto)
  | rt (v : PV) (S : Sto)
  | bk (ρ : EnP) (S : Sto)
  | ct (ρ : EnP) (S : Sto)
  | exc (c : Str) (fs : List (Str × PV)) (ρ : EnP) (S : Sto)
  | bad
def Res.bind {α β : Type} (r : Res α) (f : α → Sto → Res β) : Res β :=
  match r with
  | .ok a S => f a S
  | .exc c fs S => .exc c fs S
  | .bad => .bad
@[simp] theorem Res.bind_ok {α β : Type} (a : α) (S : Sto) (f : α → Sto → Res β) : (Res.ok a S).bind f = f a S := rfl
@[simp] theorem Res.bind_exc {α β : Type} (c : Str) (fs : List (Str × PV)) (S : Sto) (f : α → Sto → Res β) : (Res.exc c fs S).bind f = .exc c fs S := rfl
@[simp] theorem Res.bind_bad {α β : Type} (f : α → Sto → Res β) : (Res.bad : Res α).bind f = .bad := rfl

/-- where the store's lists stand, and the lists that are being made (by comprehensions that run) -/
structure Mm where
  ix : List Addr
  ex : List Addr
abbrev Mm.no (m : Mm) (a : Addr) : Prop := a ∉ m.ix ∧ a ∉ m.ex
/-- no table of code objects -/
abbrev NT (o : HO) : Prop := ∀ ps, o ≠ .tbl ps
/-- nothing stands there, but a table perhaps -/
abbrev Nil (H : Hp) (a : Addr) : Prop := ∀ o, H a = some o → ¬ NT o
abbrev H0 : Hp := fun _ => none
/-- what trees stand on -/
structure Emb (m : Mm) (H : Hp) (m' : Mm) (H' : Hp) : Prop where
  get : ∀ (n : Nat) (a : Addr), m.ix[n]? = some a → m'.ix[n]? = some a
  keep : ∀ a o, m.no a → H a = some o → NT o → m'.no a ∧ H' a = some o
  tup : ∀ a xs, H a = some (.tup xs) → H' a = some (.tup xs)
  frz : ∀ a o u, H a = some (.frz o u) → H' a = some (.frz o u)
/-- .. but for a dict that was read over and is free again -/
structure Emw (m : Mm) (H : Hp) (m' : Mm) (H' : Hp) : Prop where
  get : ∀ (n : Nat) (a : Addr), m.ix[n]? = some a → m'.ix[n]? = some a
  keep : ∀ a o, m.no a → H a = some o → NT o → (∀ k, o ≠ .dT k) → m'.no a ∧ H' a = some o
  tup : ∀ a xs, H a = some (.tup xs) → H' a = some (.tup xs)
  frz : ∀ a o u, H a = some (.frz o u) → (∀ k, u ≠ .dT k) → H' a = some (.frz o u)
theorem Emb.emw {m m' : Mm} {H H' : Hp} (s : Emb m H m' H') : Emw m H m' H' := ⟨s.get, fun a o h e n _ => s.keep a o h e n, s.tup, fun a o u e _ => s.frz a o u e⟩
/-- a lambda that a def has got: where it stands, and what must stay while it may be called -/
structure LmI where
  f : Addr
  Φ : Mm → Hp → Prop
  st : ∀ m H m' H', Emw m H m' H' → Φ m H → Φ m' H'
structure Tb where
  tabs : List (Addr × Str)
  lm : Option LmI
  /-- where the fields of the error at hand stand -/
  ed : Option Addr
/-- the module's facts: its written part, what its names hold, the tables of lambdas; the lambda at hand; the error at hand -/
structure Gm where
  K : PySem.W.Frag
  mg : Str → Option Value
  T : Tb
  er : Option Value
abbrev Gm.bare (g : Gm) : Gm := ⟨g.K, g.mg, ⟨g.T.tabs, none, g.T.ed⟩, none⟩
abbrev Bare (g : Gm) : Prop := g.bare = g

mutual
/-- the machine's value v stands for a tree -/
def Rep (g : Gm) (m : Mm) (H : Hp) : PV → V → Prop
  | .non, v => v = .non
  | .bl b, v => v = .bl b
  | .int i, v => v = .int i
  | .str s, v => v = .str s
  | .tup xs, v => ∃ a vs, v = .ref a ∧ SqT g.K H a vs ∧ RepL g m H xs vs
  | .ct xs, v => ∃ a vs, v = .ref a ∧ SqT g.K H0 a vs ∧ RepL g m H xs vs
  | .nl xs, v => ∃ a vs, v = .ref a ∧ m.no a ∧ H a = some (HO.lst vs) ∧ RepL g m H xs vs
  | .fl xs, v => ∃ a vs, v = .ref a ∧ ((∃ o, H a = some (HO.frz o (HO.lst vs))) ∨ SqL g.K H0 a vs) ∧ RepL g m H xs vs
  | .nd ks xs, v => ∃ a vs, v = .ref a ∧ m.no a ∧ H a = some (.dK (ks.zip vs)) ∧ ks.length = vs.length ∧ RepL g m H xs vs
  | .ref n, v => ∃ a, m.ix[n]? = some a ∧ v = .ref a
  | .ty n, v => v = .ty n
  | .glb x, v => ∃ a, g.mg x = some (.ref a) ∧ v = .ref a
  | .err, v => ∃ a, g.er = some (.ref a) ∧ v = .ref a ∧ ∀ d, g.T.ed = some d → m.no d ∧ ∃ ws, H d = some (.xd ws)
  | .lam, v => ∃ i, g.T.lm = some i ∧ v = .ref i.f ∧ i.Φ m H
def RepL (g : Gm) (m : Mm) (H : Hp) : List PV → List V → Prop
  | [], vs => vs = []
  | x :: xs, vs => ∃ v ws, vs = v :: ws ∧ Rep g m H x v ∧ RepL g m H xs ws
end

/-- what stands behind a stretch of the run: more addresses, new ones; what is no list of the store stays -/
structure Step (m : Mm) (H : Hp) (m' : Mm) (H' : Hp) : Prop where
  pre : ∃ l, m'.ix = m.ix ++ l
  exo : ∀ a ∈ m.ex, a ∈ m'.ex
  exn : ∀ a ∈ m'.ex, a ∉ m.ex → a ∉ m.ix → Nil H a
  new : ∀ a ∈ m'.ix, a ∉ m.ix → Nil H a
  keep : ∀ a o, a ∉ m.ix → H a = some o → NT o → H' a = some o
  tup : ∀ a xs, H a = some (.tup xs) → H' a = some (.tup xs)
  frz : ∀ a o u, H a = some (.frz o u) → H' a = some (.frz o u)
theorem Step.refl (m : Mm) (H : Hp) : Step m H m H := ⟨⟨[], by simp⟩, fun _ h => h, fun a h1 h2 => absurd h1 h2, fun a h1 h2 => absurd h1 h2, fun _ _ _ e _ => e, fun _ _ e => e, fun _ _ _ e => e⟩
theorem Step.old {m m' : Mm} {H H' : Hp} (s : Step m H m' H') {x : Addr} {o : HO} (h : x ∉ m.ix) (e : H x = some o) (n : NT o) : x ∉ m'.ix := fun q => s.new x q h o e n
theorem Step.no {m m' : Mm} {H H' : Hp} (s : Step m H m' H') {x : Addr} {o : HO} (h : m.no x) (e : H x = some o) (n : NT o) : m'.no x := ⟨s.old h.1 e n, fun q => s.exn x q h.2 h.1 o e n⟩
theorem Step.trans {m m1 m2 : Mm} {H H1 H2 : Hp} (a : Step m H m1 H1) (b : Step m1 H1 m2 H2) : Step m H m2 H2 := by
  refine ⟨?_, fun x h => b.exo x (a.exo x h), fun x h1 h2 h3 o e n => ?_, fun x h1 h2 o e n => ?_, fun x o h e n => b.keep x o (a.old h e n) (a.keep x o h e n) n, fun x xs e => b.tup _ _ (a.tup _ _ e), fun x o u e => b.frz _ _ _ (a.frz _ _ _ e)⟩
  · obtain ⟨l, e⟩ := a.pre
    obtain ⟨l', e'⟩ := b.pre
    exact ⟨l ++ l', by rw [e', e, List.append_assoc]⟩
  · by_cases q : x ∈ m1.ex
    · exact a.exn x q h2 h3 o e n
    · by_cases q2 : x ∈ m1.ix
      · exact a.new x q2 h3 o e n
      · exact b.exn x h1 q q2 o (a.keep x o h3 e n) n
  · by_cases q : x ∈ m1.ix
    · exact a.new x q h2 o e n
    · exact b.new x h1 q o (a.keep x o h2 e n) n
theorem Step.get {m m' : Mm} {H H' : Hp} (s : Step m H m' H') {n : Nat} {a : Addr} (h : m.ix[n]? = some a) : m'.ix[n]? = some a := by
  obtain ⟨l, e⟩ := s.pre
  have hl := (List.getElem?_eq_some_iff.mp h).1
  rw [e, List.getElem?_append_left hl]
  exact h
theorem Step.emb {m m' : Mm} {H H' : Hp} (s : Step m H m' H') : Emb m H m' H' := ⟨fun _ _ h => s.get h, fun a o h e n => ⟨s.no h e n, s.keep a o h.1 e n⟩, s.tup, s.frz⟩
theorem nt_lst {vs : List V} : NT (.lst vs) := fun ps q => by cases q
theorem nt_dK {vs : List (Key × V)} : NT (.dK vs) := fun ps q => by cases q

theorem rd_frz {H H' : Hp} {a : Addr} {u : HO} (h1 : H a = some u → H' a = some u) (h2 : ∀ o, H a = some (.frz o u) → H' a = some (.frz o u)) (r : Rd H a u) : Rd H' a u := by
  rcases r with r | ⟨o, r⟩
  · exact .inl (h1 r)
  · exact .inr ⟨o, h2 o r⟩
theorem sqT_emw {g : Gm} {m m' : Mm} {H H' : Hp} {a : Addr} {vs : List V} (s : Emw m H m' H') (h : SqT g.K H a vs) : SqT g.K H' a vs := by
  rcases h with h | h
  · exact .inl (rd_frz (s.tup a vs) (fun o e => s.frz a o _ e (fun k z => by cases z)) h)
  · exact .inr h
theorem sqT_emb {g : Gm} {m m' : Mm} {H H' : Hp} {a : Addr} {vs : List V} (s : Emb m H m' H') (h : SqT g.K H a vs) : SqT g.K H' a vs := sqT_emw s.emw h
theorem sqT_step {g : Gm} {m m' : Mm} {H H' : Hp} {a : Addr} {vs : List V} (s : Step m H m' H') (h : SqT g.K H a vs) : SqT g.K H' a vs := sqT_emb s.emb h
mutual
theorem Rep.emw {g : Gm} {m m' : Mm} {H H' : Hp} (s : Emw m H m' H') : ∀ (x : PV) (v : V), Rep g m H x v → Rep g m' H' x v
  | .non, _, h => h
  | .bl _, _, h => h
  | .int _, _, h => h
  | .str _, _, h => h
  | .tup xs, _, h => by
    unfold Rep at h ⊢
    obtain ⟨a, vs, e, h1, h2⟩ := h
    exact ⟨a, vs, e, sqT_emw s h1, RepL.emw s xs vs h2⟩
  | .ct xs, _, h => by
    unfold Rep at h ⊢
    obtain ⟨a, vs, e, h1, h2⟩ := h
    exact ⟨a, vs, e, h1, RepL.emw s xs vs h2⟩
  | .nl xs, _, h => by
    unfold Rep at h ⊢
    obtain ⟨a, vs, e, h0, h1, h2⟩ := h
    obtain ⟨k1, k2⟩ := s.keep a _ h0 h1 nt_lst (fun k z => by cases z)
    exact ⟨a, vs, e, k1, k2, RepL.emw s xs vs h2⟩
  | .fl xs, _, h => by
    unfold Rep at h ⊢
    obtain ⟨a, vs, e, h1, h2⟩ := h
    refine ⟨a, vs, e, ?_, RepL.emw s xs vs h2⟩
    rcases h1 with ⟨o, h1⟩ | h1
    · exact .inl ⟨o, s.frz a o _ h1 (fun k z => by cases z)⟩
    · exact .inr h1
  | .nd ks xs, _, h => by
    unfold Rep at h ⊢
    obtain ⟨a, vs, e, h0, h1, h3, h2⟩ := h
    obtain ⟨k1, k2⟩ := s.keep a _ h0 h1 nt_dK (fun k z => by cases z)
    exact ⟨a, vs, e, k1, k2, h3, RepL.emw s xs vs h2⟩
  | .ref n, _, h => by
    unfold Rep at h ⊢
    obtain ⟨a, h1, h2⟩ := h
    exact ⟨a, s.get n a h1, h2⟩
  | .ty _, _, h => h
  | .glb _, _, h => by
    unfold Rep at h ⊢
    exact h
  | .err, _, h => by
    unfold Rep at h ⊢
    obtain ⟨a, h1, h2, h3⟩ := h
    refine ⟨a, h1, h2, fun d e => ?_⟩
    obtain ⟨n, ws, q⟩ := h3 d e
    obtain ⟨k1, k2⟩ := s.keep d _ n q (fun ps z => by cases z) (fun k z => by cases z)
    exact ⟨k1, ws, k2⟩
  | .lam, _, h => by
    unfold Rep at h ⊢
    obtain ⟨i, h1, h2, h3⟩ := h
    exact ⟨i, h1, h2, i.st _ _ _ _ s h3⟩
theorem RepL.emw {g : Gm} {m m' : Mm} {H H' : Hp} (s : Emw m H m' H') : ∀ (xs : List PV) (vs : List V), RepL g m H xs vs → RepL g m' H' xs vs
  | [], _, h => h
  | x :: xs, _, h => by
    unfold RepL at h ⊢
    obtain ⟨v, ws, e, h1, h2⟩ := h
    exact ⟨v, ws, e, Rep.emw s x v h1, RepL.emw s xs ws h2⟩
end
theorem Rep.emb {g : Gm} {m m' : Mm} {H H' : Hp} (s : Emb m H m' H') (x : PV) (v : V) (h : Rep g m H x v) : Rep g m' H' x v := Rep.emw s.emw x v h
theorem RepL.emb {g : Gm} {m m' : Mm} {H H' : Hp} (s : Emb m H m' H') (xs : List PV) (vs : List V) (h : RepL g m H xs vs) : RepL g m' H' xs vs := RepL.emw s.emw xs vs h
theorem Rep.step {g : Gm} {m m' : Mm} {H H' : Hp} (s : Step m H m' H') (x : PV) (v : V) (h : Rep g m H x v) : Rep g m' H' x v := Rep.emb s.emb x v h
theorem RepL.step {g : Gm} {m m' : Mm} {H H' : Hp} (s : Step m H m' H') (xs : List PV) (vs : List V) (h : RepL g m H xs vs) : RepL g m' H' xs vs := RepL.emb s.emb xs vs h
mutual
theorem Rep.up {g : Gm} {m : Mm} {H : Hp} : ∀ (x : PV) (v : V), Rep g.bare m H x v → Rep g m H x v
  | .non, _, h => h
  | .bl _, _, h => h
  | .int _, _, h => h
  | .str _, _, h => h
  | .tup xs, _, h => by
    unfold Rep at h ⊢
    obtain ⟨a, vs, e, h1, h2⟩ := h
    exact ⟨a, vs, e, h1, RepL.up xs vs h2⟩
  | .ct xs, _, h => by
    unfold Rep at h ⊢
    obtain ⟨a, vs, e, h1, h2⟩ := h
    exact ⟨a, vs, e, h1, RepL.up xs vs h2⟩
  | .nl xs, _, h => by
    unfold Rep at h ⊢
    obtain ⟨a, vs, e, h0, h1, h2⟩ := h
    exact ⟨a, vs, e, h0, h1, RepL.up xs vs h2⟩
  | .fl xs, _, h => by
    unfold Rep at h ⊢
    obtain ⟨a, vs, e, h1, h2⟩ := h
    exact ⟨a, vs, e, h1, RepL.up xs vs h2⟩
  | .nd ks xs, _, h => by
    unfold Rep at h ⊢
    obtain ⟨a, vs, e, h0, h1, h3, h2⟩ := h
    exact ⟨a, vs, e, h0, h1, h3, RepL.up xs vs h2⟩
  | .ref n, _, h => by
    unfold Rep at h ⊢
    exact h
  | .ty _, _, h => h
  | .glb _, _, h => by
    unfold Rep at h ⊢
    exact h
  | .err, _, h => by
    unfold Rep at h
    obtain ⟨a, h1, _⟩ := h
    cases h1
  | .lam, _, h => by
    unfold Rep at h
    obtain ⟨i, h1, _⟩ := h
    cases h1
theorem RepL.up {g : Gm} {m : Mm} {H : Hp} : ∀ (xs : List PV) (vs : List V), RepL g.bare m H xs vs → RepL g m H xs vs
  | [], _, h => h
  | x :: xs, _, h => by
    unfold RepL at h ⊢
    obtain ⟨v, ws, e, h1, h2⟩ := h
    exact ⟨v, ws, e, Rep.up x v h1, RepL.up xs ws h2⟩
end
theorem RepL.length {g : Gm} {m : Mm} {H : Hp} : ∀ {xs : List PV} {vs : List V}, RepL g m H xs vs → xs.length = vs.length
  | [], _, h => by unfold RepL at h; subst h; rfl
  | x :: xs, _, h => by
    unfold RepL at h
    obtain ⟨v, ws, rfl, _, h2⟩ := h
    rw [List.length_cons, List.length_cons, RepL.length h2]
theorem RepL.nil {g : Gm} {m : Mm} {H : Hp} : RepL g m H [] [] := rfl
theorem RepL.cons {g : Gm} {m : Mm} {H : Hp} {x : PV} {xs : List PV} {v : V} {vs : List V} (h : Rep g m H x v) (t : RepL g m H xs vs) : RepL g m H (x :: xs) (v :: vs) := by
  unfold RepL
  exact ⟨v, vs, rfl, h, t⟩
theorem RepL.get {g : Gm} {m : Mm} {H : Hp} : ∀ {xs : List PV} {vs : List V} {i : Nat} {x : PV}, RepL g m H xs vs → xs[i]? = some x → ∃ v, vs[i]? = some v ∧ Rep g m H x v
  | [], _, _, _, _, e => by simp at e
  | y :: ys, _, 0, x, h, e => by
    unfold RepL at h
    obtain ⟨v, ws, rfl, h1, _⟩ := h
    simp at e; subst e
    exact ⟨v, rfl, h1⟩
  | y :: ys, _, i + 1, x, h, e => by
    unfold RepL at h
    obtain ⟨v, ws, rfl, _, h2⟩ := h
    obtain ⟨w, e1, e2⟩ := RepL.get (i := i) (x := x) h2 (by simpa using e)
    exact ⟨w, by simpa using e1, e2⟩
theorem RepL.append {g : Gm} {m : Mm} {H : Hp} : ∀ {xs ys : List PV} {vs ws : List V}, RepL g m H xs vs → RepL g m H ys ws → RepL g m H (xs ++ ys) (vs ++ ws)
  | [], _, _, _, h, t => by unfold RepL at h; subst h; exact t
  | x :: xs, ys, _, ws, h, t => by
    unfold RepL at h
    obtain ⟨v, us, rfl, h1, h2⟩ := h
    exact RepL.cons h1 (RepL.append h2 t)
theorem RepL.set {g : Gm} {m : Mm} {H : Hp} {x : PV} {v : V} (hx : Rep g m H x v) : ∀ {xs : List PV} {vs : List V} (i : Nat), RepL g m H xs vs → RepL g m H (xs.set i x) (vs.set i v)
  | [], _, _, h => by unfold RepL at h; subst h; exact RepL.nil
  | y :: ys, _, 0, h => by
    unfold RepL at h
    obtain ⟨u, us, rfl, h1, h2⟩ := h
    exact RepL.cons hx h2
  | y :: ys, _, i + 1, h => by
    unfold RepL at h
    obtain ⟨u, us, rfl, h1, h2⟩ := h
    exact RepL.cons h1 (RepL.set hx i h2)
theorem RepL.take {g : Gm} {m : Mm} {H : Hp} : ∀ {xs : List PV} {vs : List V} (n : Nat), RepL g m H xs vs → RepL g m H (xs.take n) (vs.take n)
  | _, _, 0, _ => by simp only [List.take_zero]; exact RepL.nil
  | [], _, n + 1, h => by unfold RepL at h; subst h; exact RepL.nil
  | y :: ys, _, n + 1, h => by
    unfold RepL at h
    obtain ⟨u, us, rfl, h1, h2⟩ := h
    exact RepL.cons h1 (RepL.take n h2)
theorem RepL.drop {g : Gm} {m : Mm} {H : Hp} : ∀ {xs : List PV} {vs : List V} (n : Nat), RepL g m H xs vs → RepL g m H (xs.drop n) (vs.drop n)
  | _, _, 0, h => h
  | [], _, n + 1, h => by unfold RepL at h; subst h; exact RepL.nil
  | y :: ys, _, n + 1, h => by
    unfold RepL at h
    obtain ⟨u, us, rfl, h1, h2⟩ := h
    exact RepL.drop (xs := ys) (vs := us) n h2

/-- a dict's keys, tuples of ints, all with True -/
def kvT (k : List Int) : List Key × V := (k.map Sum.inl, .bl true)
/-- what is tracked -/
def Tr (u : HO) : Prop := (∃ vs, u = .lst vs) ∨ (∃ k, u = .dT k) ∨ ∃ o k, u = .frz o (.dT k)
theorem Tr.nt {u : HO} (h : Tr u) : NT u := by
  rcases h with ⟨_, rfl⟩ | ⟨_, rfl⟩ | ⟨_, _, rfl⟩ <;> exact fun ps q => by cases q
theorem tr_lst {vs : List V} : Tr (.lst vs) := .inl ⟨vs, rfl⟩
/-- what stands in the store, and in the heap -/
def RSO (g : Gm) (m : Mm) (H : Hp) : SO → HO → Prop
  | .lst xs, u => ∃ vs, u = .lst vs ∧ RepL g m H xs vs
  | .dT ks, u => u = .dT (ks.map kvT)
  | .fz ks, u => ∃ o, u = .frz o (.dT (ks.map kvT))
theorem RSO.tr {g : Gm} {m : Mm} {H : Hp} {o : SO} {u : HO} (h : RSO g m H o u) : Tr u := by
  cases o with
  | lst xs => obtain ⟨vs, rfl, _⟩ := h; exact .inl ⟨vs, rfl⟩
  | dT ks => exact .inr (.inl ⟨_, h⟩)
  | fz ks => obtain ⟨o, rfl⟩ := h; exact .inr (.inr ⟨o, _, rfl⟩)
theorem RSO.emw {g : Gm} {m m' : Mm} {H H' : Hp} {o : SO} {u : HO} (s : Emw m H m' H') (h : RSO g m H o u) : RSO g m' H' o u := by
  cases o with
  | lst xs => obtain ⟨vs, e, r⟩ := h; exact ⟨vs, e, RepL.emw s _ _ r⟩
  | dT ks => exact h
  | fz ks => exact h
theorem RSO.emb {g : Gm} {m m' : Mm} {H H' : Hp} {o : SO} {u : HO} (s : Emb m H m' H') (h : RSO g m H o u) : RSO g m' H' o u := RSO.emw s.emw h
theorem RSO.step {g : Gm} {m m' : Mm} {H H' : Hp} {o : SO} {u : HO} (s : Step m H m' H') (h : RSO g m H o u) : RSO g m' H' o u := RSO.emb s.emb h
/-- the store -/
structure RelS (g : Gm) (m : Mm) (S : Sto) (H : Hp) : Prop where
  len : m.ix.length = S.length
  nd : m.ix.Nodup
  exs : ∀ a ∈ m.ex, a ∉ m.ix ∧ ∃ u, H a = some u ∧ Tr u
  at_ : ∀ (n : Nat) (o : SO), S[n]? = some o → ∃ a u, m.ix[n]? = some a ∧ H a = some u ∧ RSO g.bare m H o u
  tab : LamX.Tabs g.T.tabs H
/-- the names -/
structure RelE (g : Gm) (m : Mm) (H : Hp) (ρ : EnP) (σ : L2.St) : Prop where
  len : ρ.length = σ.length
  at_ : ∀ (i : Nat) (v : PV), ρ[i]? = some (some v) → ∃ w, σ[i]? = some (some w) ∧ Rep g m H v w
theorem RelE.step {g : Gm} {m m' : Mm} {H H' : Hp} {ρ : EnP} {σ : L2.St} (s : Step m H m' H') (r : RelE g m H ρ σ) : RelE g m' H' ρ σ :=
  ⟨r.len, fun i v e => let ⟨w, e1, e2⟩ := r.at_ i v e; ⟨w, e1, Rep.step s _ _ e2⟩⟩
theorem RelE.set {g : Gm} {m : Mm} {H : Hp} {ρ : EnP} {σ : L2.St} {v : PV} {w : V} (r : RelE g m H ρ σ) (i : Nat) (h : Rep g m H v w) : RelE g m H (ρ.set i (some v)) (σ.set i (some w)) := by
  refine ⟨by rw [List.length_set, List.length_set, r.len], fun j u e => ?_⟩
  by_cases hj : i = j
  · subst hj
    by_cases hi : i < ρ.length
    · rw [List.getElem?_set_self hi] at e
      cases e
      exact ⟨w, by rw [List.getElem?_set_self (by rw [← r.len]; exact hi)], h⟩
    · rw [List.getElem?_eq_none (by simpa using hi)] at e; cases e
  · rw [List.getElem?_set_ne hj] at e ⊢
    exact r.at_ j u e

/-- an error: its class by its name, its fields -/
def RepF (g : Gm) (m : Mm) (H : Hp) : List (Str × PV) → List (Str × V) → Prop
  | [], ws => ws = []
  | (f, x) :: r, ws => ∃ v us, ws = (f, v) :: us ∧ Rep g m H x v ∧ RepF g m H r us
def ExcR (g : Gm) (m : Mm) (H : Hp) (c : Str) (fs : List (Str × PV)) (cls : Value) (dd : Option Addr) : Prop :=
  ∃ C, g.mg c = some (.ref C) ∧ cls = .ref C ∧ (fs = [] → dd = none) ∧ (fs ≠ [] → ∃ d ws, dd = some d ∧ H d = some (.xd ws) ∧ RepF g m H fs ws)

/-- what is to be shown of an answer -/
def PostR {α β : Type} (g : Gm) (W : WX) (σ : L2.St) (m : Mm) (H : Hp) (R : Mm → Hp → α → β → Prop) (Q : β → Hp → Prop) : Res α → Prop
  | .ok a S' => ∀ m' H' w, Step m H m' H' → RelS g m' S' H' → R m' H' a w → Q w H'
  | .exc c fs S' => ∀ m' H' cls dd, Step m H m' H' → RelS g m' S' H' → ExcR g m' H' c fs cls dd → W cls dd σ H'
  | .bad => False
abbrev PostV (g : Gm) (W : WX) (σ : L2.St) (m : Mm) (H : Hp) (Q : VK) : Res PV → Prop := PostR g W σ m H (fun m' H' => Rep g m' H') Q
abbrev PostL (g : Gm) (W : WX) (σ : L2.St) (m : Mm) (H : Hp) (Q : List V → Hp → Prop) : Res (List PV) → Prop := PostR g W σ m H (fun m' H' => RepL g m' H') Q
abbrev PostB (g : Gm) (W : WX) (σ : L2.St) (m : Mm) (H : Hp) (Q : Bool → Hp → Prop) : Res Bool → Prop := PostR g W σ m H (fun _ _ b c => b = c) Q
theorem PostR.step {α β : Type} {g : Gm} {W : WX} {σ : L2.St} {m m1 : Mm} {H H1 : Hp} {R : Mm → Hp → α → β → Prop} {Q : β → Hp → Prop} {r : Res α} (s : Step m H m1 H1) (p : PostR g W σ m H R Q r) : PostR g W σ m1 H1 R Q r := by
  cases r with
  | ok a S => exact fun m' H' w s' h1 h2 => p m' H' w (s.trans s') h1 h2
  | exc c fs S => exact fun m' H' cls dd s' h1 h2 => p m' H' cls dd (s.trans s') h1 h2
  | bad => exact p

/-! ### judgements -/
def tr {α β : Type} (g : Gm) (W : WX) (R : Mm → Hp → α → β → Prop) (d : EnP → Sto → Res α) : L2.St → Hp → (β → Hp → Prop) → Prop :=
  fun σ H Q => ∃ ρ S m, RelE g m H ρ σ ∧ RelS g m S H ∧ PostR g W σ m H R Q (d ρ S)
abbrev tv (g : Gm) (W : WX) (d : EnP → Sto → Res PV) : TE := tr g W (fun m' H' => Rep g m' H') d
abbrev tl (g : Gm) (W : WX) (d : EnP → Sto → Res (List PV)) : TA := tr g W (fun m' H' => RepL g m' H') d
abbrev tb (g : Gm) (W : WX) (d : EnP → Sto → Res Bool) : TT := tr g W (fun _ _ b c => b = c) d
abbrev gm (X : Cx) (T : Tb) : Gm := ⟨X.K, X.mg, T, X.A.handled⟩
/-- where one stands -/
structure Ctx (X : Cx) (k : Nat) (W : WX) : Prop where
  room : Room k X.A
  gd : X.A.guards = some []
  calm : X.calm = true
  tk : Takes X W
  po : PassesOwn (model X.prog X.w) X.A X.env X.xe
abbrev CE (X : Cx) (T : Tb) (W : WX) (e : Expr) (d : EnP → Sto → Res PV) : Prop := PE X e (tv (gm X T) W d)
abbrev CA (X : Cx) (T : Tb) (W : WX) (es : List Expr) (d : EnP → Sto → Res (List PV)) : Prop := PA X es (tl (gm X T) W d)
abbrev CT (X : Cx) (T : Tb) (W : WX) (e : Expr) (d : EnP → Sto → Res Bool) : Prop := PT X e (tb (gm X T) W d)
abbrev CW (X : Cx) (T : Tb) (W : WX) (e : Expr) (d : EnP → Sto → Res Bool) : Prop := PW X e (tb (gm X T) W d)
def PostS (g : Gm) (W : WX) (D : Ends) (m : Mm) (H : Hp) : SR → Prop
  | .nx ρ S => ∀ m' H' σ', Step m H m' H' → RelS g m' S H' → RelE g m' H' ρ σ' → D.nx σ' H'
  | .bk ρ S => ∀ m' H' σ', Step m H m' H' → RelS g m' S H' → RelE g m' H' ρ σ' → D.bk σ' H'
  | .ct ρ S => ∀ m' H' σ', Step m H m' H' → RelS g m' S H' → RelE g m' H' ρ σ' → D.ct σ' H'
  | .rt v S => ∀ m' H' w, Step m H m' H' → RelS g m' S H' → Rep g m' H' v w → D.rt w H'
  | .exc c fs ρ S => ∀ m' H' σ' cls dd, Step m H m' H' → RelS g m' S H' → RelE g m' H' ρ σ' → ExcR g m' H' c fs cls dd → W cls dd σ' H'
  | .bad => False
theorem PostS.step {g : Gm} {W : WX} {D : Ends} {m m1 : Mm} {H H1 : Hp} {r : SR} (s : Step m H m1 H1) (p : PostS g W D m H r) : PostS g W D m1 H1 r := by
  cases r with
  | nx ρ S => exact fun m' H' σ' s' h1 h2 => p m' H' σ' (s.trans s') h1 h2
  | bk ρ S => exact fun m' H' σ' s' h1 h2 => p m' H' σ' (s.trans s') h1 h2
  | ct ρ S => exact fun m' H' σ' s' h1 h2 => p m' H' σ' (s.trans s') h1 h2
  | rt v S => exact fun m' H' w s' h1 h2 => p m' H' w (s.trans s') h1 h2
  | exc c fs ρ S => exact fun m' H' σ' cls dd s' h1 h2 h3 => p m' H' σ' cls dd (s.trans s') h1 h2 h3
  | bad => exact p
def ts (g : Gm) (W : WX) (d : EnP → Sto → SR) : TS := fun D σ H => ∃ ρ S m, RelE g m H ρ σ ∧ RelS g m S H ∧ PostS g W D m H (d ρ S)
abbrev CS (X : Cx) (T : Tb) (W : WX) (st : Stmt) (d : EnP → Sto → SR) : Prop := PS X st (ts (gm X T) W d)
abbrev CSs (X : Cx) (T : Tb) (W : WX) (st : List Stmt) (d : EnP → Sto → SR) : Prop := PSs X st (ts (gm X T) W d)

/-! ### weakening -/
theorem pe_imp {X : Cx} {e : Expr} {t t' : TE} (h : PE X e t) (w : ∀ σ H Q, t' σ H Q → t σ H Q) : PE X e t' := ⟨fun pins s σ H Q I q => h.run pins s σ H Q I (w σ H Q q)⟩
theorem pt_imp {X : Cx} {e : Expr} {t t' : TT} (h : PT X e t) (w : ∀ σ H Q, t' σ H Q → t σ H Q) : PT X e t' := ⟨fun pins s σ H Q I q => h.run pins s σ H Q I (w σ H Q q)⟩
theorem pw_imp {X : Cx} {e : Expr} {t t' : TT} (h : PW X e t) (w : ∀ σ H Q, t' σ H Q → t σ H Q) : PW X e t' := ⟨fun wh pins s σ H Q I q => h.run wh pins s σ H Q I (w σ H Q q)⟩
theorem pa_imp {X : Cx} {e : List Expr} {t t' : TA} (h : PA X e t) (w : ∀ σ H Q, t' σ H Q → t σ H Q) : PA X e t' := ⟨fun pos pins s σ H Q I q => h.run pos pins s σ H Q I (w σ H Q q)⟩
theorem ps_imp {X : Cx} {e : Stmt} {t t' : TS} (h : PS X e t) (w : ∀ D σ H, t' D σ H → t D σ H) : PS X e t' := ⟨fun pins s σ H D I q => h.run pins s σ H D I (w D σ H q)⟩
theorem pss_imp {X : Cx} {e : List Stmt} {t t' : TS} (h : PSs X e t) (w : ∀ D σ H, t' D σ H → t D σ H) : PSs X e t' := ⟨fun pins s σ H D I q => h.run pins s σ H D I (w D σ H q)⟩

/-- two readings in a row: from that of the first to that of the rest -/
theorem tr_bind {α β α' β' : Type} {g : Gm} {W : WX} {R : Mm → Hp → α → β → Prop} {R' : Mm → Hp → α' → β' → Prop} {d : EnP → Sto → Res α} {f : α → EnP → Sto → Res α'} {σ : L2.St} {H : Hp} {Q : β' → Hp → Prop} {ρ : EnP} {S : Sto} {m : Mm}
    (hE : RelE g m H ρ σ) (hS : RelS g m S H) (p : PostR g W σ m H R' Q ((d ρ S).bind fun a S1 => f a ρ S1)) {Q1 : β → Hp → Prop}
    (h : ∀ a S1 m1 H1 w, Step m H m1 H1 → RelE g m1 H1 ρ σ → RelS g m1 S1 H1 → R m1 H1 a w → PostR g W σ m1 H1 R' Q (f a ρ S1) → Q1 w H1) : tr g W R d σ H Q1 := by
  refine ⟨ρ, S, m, hE, hS, ?_⟩
  cases hd : d ρ S with
  | ok a S1 =>
    rw [hd] at p
    exact fun m' H' w s h1 h2 => h a S1 m' H' w s (hE.step s) h1 h2 (PostR.step s p)
  | exc c fs S1 =>
    rw [hd] at p
    exact fun m' H' cls dd s h1 h2 => p m' H' cls dd s h1 h2
  | bad =>
    rw [hd] at p
    exact p.elim
/-- an answer that is there at once -/
theorem PostR.here {α β : Type} {g : Gm} {W : WX} {σ : L2.St} {m : Mm} {H : Hp} {R : Mm → Hp → α → β → Prop} {Q : β → Hp → Prop} {a : α} {S : Sto} {w : β} (p : PostR g W σ m H R Q (.ok a S)) (hS : RelS g m S H) (r : R m H a w) : Q w H := p m H w (Step.refl m H) hS r
end Mi
end
section
set_option Elab.async false
set_option linter.all false
set_option maxRecDepth 100000
set_option maxHeartbeats 2000000
namespace Mi
open PySem PySem.Spec PyProof.Rows L2

/-! ### new objects -/
abbrev Mm.push (m : Mm) (p : Addr) : Mm := ⟨m.ix ++ [p], m.ex⟩
section
variable {g : Gm} {m : Mm} {S : Sto} {H : Hp} {p : Addr}
theorem RelS.tracked (h : RelS g m S H) {a : Addr} (ha : a ∈ m.ix) : ∃ u, H a = some u ∧ Tr u := by
  obtain ⟨n, hn, e⟩ := List.getElem_of_mem ha
  have hs : n < S.length := by rw [← h.len]; exact hn
  obtain ⟨b, u, e1, e2, e3⟩ := h.at_ n S[n] (List.getElem?_eq_getElem hs)
  rw [List.getElem?_eq_getElem hn] at e1
  have e4 := Option.some.inj e1
  rw [← e4, e] at e2
  exact ⟨u, e2, e3.tr⟩
theorem RelS.fresh (h : RelS g m S H) (hp : H p = none) : m.no p := by
  refine ⟨fun q => ?_, fun q => by obtain ⟨_, vs, e, _⟩ := h.exs p q; rw [hp] at e; cases e⟩
  obtain ⟨xs, e, _⟩ := h.tracked q
  rw [hp] at e
  cases e
theorem nil_of (hp : H p = none) : Nil H p := fun o e => by rw [hp] at e; cases e
theorem step_new {o : HO} (hp : H p = none) : Step m H m (upd H p o) :=
  ⟨⟨[], by simp⟩, fun _ h => h, fun a h1 h2 => absurd h1 h2, fun a h1 h2 => absurd h1 h2, fun a u _ e _ => by rw [upd_ne (ne_of_none e hp)]; exact e, fun a u e => by rw [upd_ne (ne_of_none e hp)]; exact e, fun a o u e => by rw [upd_ne (ne_of_none e hp)]; exact e⟩
theorem step_alloc {o : HO} (hp : H p = none) : Step m H (m.push p) (upd H p o) :=
  ⟨⟨[p], rfl⟩, fun _ h => h, fun a h1 h2 => absurd h1 h2, fun a h1 h2 => by
      rcases List.mem_append.mp h1 with z | z
      · exact absurd z h2
      · rw [List.mem_singleton.mp z]; exact nil_of hp,
    (step_new hp (m := m)).keep, (step_new hp (m := m)).tup, (step_new hp (m := m)).frz⟩
theorem tabs_new {T : List (Addr × Str)} {o : HO} (hp : H p = none) (t : LamX.Tabs T H) : LamX.Tabs T (upd H p o) := t.ext fun b u e => by rw [upd_ne (ne_of_none e hp)]; exact e
theorem RelS.new {o : HO} (h : RelS g m S H) (hp : H p = none) : RelS g m S (upd H p o) :=
  ⟨h.len, h.nd, fun a ha => ⟨(h.exs a ha).1, (h.exs a ha).2.imp fun vs e => ⟨by rw [upd_ne (ne_of_none e.1 hp)]; exact e.1, e.2⟩⟩, fun n xs e => by
    obtain ⟨a, vs, e1, e2, e3⟩ := h.at_ n xs e
    exact ⟨a, vs, e1, by rw [upd_ne (ne_of_none e2 hp)]; exact e2, RSO.step (step_new hp) e3⟩, tabs_new hp h.tab⟩
theorem RelS.allocO {o : SO} {u : HO} (h : RelS g m S H) (hp : H p = none) (r : RSO g.bare (m.push p) (upd H p u) o u) : RelS g (m.push p) (S ++ [o]) (upd H p u) := by
  refine ⟨by simp [h.len], ?_, fun a ha => ⟨fun q => ?_, (h.exs a ha).2.imp fun vs e => ⟨by rw [upd_ne (ne_of_none e.1 hp)]; exact e.1, e.2⟩⟩, fun n ys e => ?_, tabs_new hp h.tab⟩
  · rw [List.nodup_append]
    refine ⟨h.nd, by simp, fun a ha b hb q => ?_⟩
    rw [List.mem_singleton.mp hb] at q
    exact (h.fresh hp).1 (by rw [← q]; exact ha)
  · rcases List.mem_append.mp q with z | z
    · exact (h.exs a ha).1 z
    · obtain ⟨_, e, _⟩ := (h.exs a ha).2
      rw [List.mem_singleton.mp z, hp] at e
      cases e
  · by_cases hn : n < S.length
    · rw [List.getElem?_append_left hn] at e
      obtain ⟨a, us, e1, e2, e3⟩ := h.at_ n ys e
      exact ⟨a, us, by rw [List.getElem?_append_left (by rw [h.len]; exact hn)]; exact e1, by rw [upd_ne (ne_of_none e2 hp)]; exact e2, RSO.step (step_alloc hp) e3⟩
    · rw [List.getElem?_append_right (by omega)] at e
      have hz : n - S.length = 0 := by
        have z := (List.getElem?_eq_some_iff.mp e).1
        simp at z; omega
      rw [hz] at e
      cases e
      refine ⟨p, u, ?_, upd_same, r⟩
      rw [List.getElem?_append_right (by rw [h.len]; omega), h.len, hz]
      rfl
theorem RelS.alloc {xs : List PV} {vs : List V} (hb : Bare g) (h : RelS g m S H) (hp : H p = none) (r : RepL g m H xs vs) : RelS g (m.push p) (S ++ [SO.lst xs]) (upd H p (HO.lst vs)) :=
  h.allocO hp ⟨vs, rfl, by rw [hb]; exact RepL.step (step_alloc hp) _ _ r⟩
/-- what may be written -/
def Wr (u : HO) : Prop := (∃ vs, u = .lst vs) ∨ ∃ k, u = .dT k
theorem step_writeO {a : Addr} {u0 u1 : HO} (w : Wr u0) (ha : a ∈ m.ix) (h : H a = some u0) : Step m H m (upd H a u1) := by
  refine ⟨⟨[], by simp⟩, fun _ h => h, fun a h1 h2 => absurd h1 h2, fun a h1 h2 => absurd h1 h2, fun b u nb e _ => by rw [upd_ne (fun q : b = a => nb (by rw [q]; exact ha))]; exact e, fun b u e => ?_, fun b o u e => ?_⟩
  · rw [upd_ne (ne_of e h (fun z => by rcases w with ⟨_, rfl⟩ | ⟨_, rfl⟩ <;> cases z))]; exact e
  · rw [upd_ne (ne_of e h (fun z => by rcases w with ⟨_, rfl⟩ | ⟨_, rfl⟩ <;> cases z))]; exact e
theorem tabs_writeO {T : List (Addr × Str)} {a : Addr} {u0 u1 : HO} (w : Tr u0) (h : H a = some u0) (t : LamX.Tabs T H) : LamX.Tabs T (upd H a u1) := fun q hq => by
  obtain ⟨ps, h1, h2, h3⟩ := t q hq
  refine ⟨ps, by rw [upd_ne (ne_of h1 h (fun z => by rcases w with ⟨_, rfl⟩ | ⟨_, rfl⟩ | ⟨_, _, rfl⟩ <;> cases z))]; exact h1, h2, fun pos cv hc => ?_⟩
  obtain ⟨c, e1, e2⟩ := h3 pos cv hc
  exact ⟨c, e1, by rw [upd_ne (ne_of e2 h (fun z => by unfold LamX.CodeO at z; rcases w with ⟨_, rfl⟩ | ⟨_, rfl⟩ | ⟨_, _, rfl⟩ <;> cases z))]; exact e2⟩
theorem RelS.writeO {n : Nat} {a : Addr} {u0 u1 : HO} {o : SO} (h : RelS g m S H) (w : Wr u0) (hn : m.ix[n]? = some a) (hs : n < S.length) (hH : H a = some u0) (r : RSO g.bare m (upd H a u1) o u1) : RelS g m (S.set n o) (upd H a u1) := by
  have ha : a ∈ m.ix := List.mem_of_getElem? hn
  have w' : Tr u0 := w.imp id (fun z => .inl z)
  refine ⟨by rw [List.length_set]; exact h.len, h.nd, fun b hx => ⟨(h.exs b hx).1, (h.exs b hx).2.imp fun vs e => ⟨by rw [upd_ne (fun q : b = a => (h.exs b hx).1 (by rw [q]; exact ha))]; exact e.1, e.2⟩⟩, fun k ys e => ?_, tabs_writeO w' hH h.tab⟩
  by_cases hk : n = k
  · subst hk
    rw [List.getElem?_set_self hs] at e
    cases e
    exact ⟨a, u1, hn, upd_same, r⟩
  · rw [List.getElem?_set_ne hk] at e
    obtain ⟨b, ws, e1, e2, e3⟩ := h.at_ k ys e
    have nb : b ≠ a := fun q => by
      rw [q] at e1
      have l1 := (List.getElem?_eq_some_iff.mp hn).1
      exact hk ((List.getElem?_inj l1 h.nd).mp (hn.trans e1.symm))
    exact ⟨b, ws, e1, by rw [upd_ne nb]; exact e2, RSO.step (step_writeO w ha hH) e3⟩
/-- a list of the store is written -/
theorem step_write {a : Addr} {vs us : List V} (ha : a ∈ m.ix) (h : H a = some (HO.lst vs)) : Step m H m (upd H a (HO.lst us)) :=
  ⟨⟨[], by simp⟩, fun _ h => h, fun a h1 h2 => absurd h1 h2, fun a h1 h2 => absurd h1 h2, fun b u nb e _ => by rw [upd_ne (fun q : b = a => nb (by rw [q]; exact ha))]; exact e,
    fun b u e => by rw [upd_ne (ne_of e h (fun z => by cases z))]; exact e, fun b o u e => by rw [upd_ne (ne_of e h (fun z => by cases z))]; exact e⟩
theorem tabs_write {T : List (Addr × Str)} {a : Addr} {vs us : List V} (h : H a = some (HO.lst vs)) (t : LamX.Tabs T H) : LamX.Tabs T (upd H a (HO.lst us)) := tabs_writeO tr_lst h t
theorem RelS.write {n : Nat} {a : Addr} {xs : List PV} {vs us : List V} (hb : Bare g) (h : RelS g m S H) (hn : m.ix[n]? = some a) (hs : n < S.length) (hH : H a = some (HO.lst vs)) (r : RepL g m H xs us) : RelS g m (S.set n (SO.lst xs)) (upd H a (HO.lst us)) :=
  h.writeO (.inl ⟨vs, rfl⟩) hn hs hH ⟨us, rfl, by rw [hb]; exact RepL.step (step_write (List.mem_of_getElem? hn) hH) _ _ r⟩
end

/-- most items -/
abbrev lim : Nat := 16777216
theorem lim_line {n : Nat} (h : n ≤ lim) : n ≤ sizeLine := by rw [sizeLine_eq]; exact h
def mkTup (xs : List PV) (S : Sto) : Res PV := if xs.length ≤ lim then .ok (.tup xs) S else .bad
/-- a new list: one of the store (mt), or one that nobody will change -/
def mkLst (mt : Bool) (xs : List PV) (S : Sto) : Res PV := if xs.length ≤ lim then (if mt = true then .ok (.ref S.length) (S ++ [SO.lst xs]) else .ok (.nl xs) S) else .bad
section
variable {g : Gm} {W : WX} {σ : L2.St} {m : Mm} {S : Sto} {H : Hp} {Q : VK} {xs : List PV} {vs : List V}
theorem new_tup (hS : RelS g m S H) (r : RepL g m H xs vs) (p : PostV g W σ m H Q (mkTup xs S)) : vs.length ≤ sizeLine ∧ ∀ p, H p = none → Q (.ref p) (upd H p (HO.tup vs)) := by
  unfold mkTup at p
  split at p
  · rename_i h
    refine ⟨by rw [← r.length]; exact lim_line h, fun a ha => p m _ _ (step_new ha) (hS.new ha) ?_⟩
    show Rep g m _ (.tup xs) _
    unfold Rep
    exact ⟨a, vs, rfl, .inl (.inl upd_same), RepL.step (step_new ha) _ _ r⟩
  · exact p.elim
theorem new_lst {mt : Bool} (hb : mt = true → Bare g) (hS : RelS g m S H) (r : RepL g m H xs vs) (p : PostV g W σ m H Q (mkLst mt xs S)) : vs.length ≤ sizeLine ∧ ∀ p, H p = none → Q (.ref p) (upd H p (HO.lst vs)) := by
  unfold mkLst at p
  split at p
  · rename_i h
    refine ⟨by rw [← r.length]; exact lim_line h, fun a ha => ?_⟩
    cases mt with
    | true =>
      refine p (m.push a) _ _ (step_alloc ha) (hS.alloc (hb rfl) ha r) ?_
      show Rep g _ _ (.ref S.length) _
      unfold Rep
      exact ⟨a, by rw [List.getElem?_append_right (by rw [hS.len]; omega), hS.len]; simp, rfl⟩
    | false =>
      refine p m _ _ (step_new ha) (hS.new ha) ?_
      show Rep g _ _ (.nl xs) _
      unfold Rep
      exact ⟨a, vs, rfl, hS.fresh ha, upd_same, RepL.step (step_new ha) _ _ r⟩
  · exact p.elim
end

/-! ### lists and tuples that are read -/
/-- the items of a list that stands in the heap by itself -/
def lstT : PV → Sto → Option (List PV)
  | .nl xs, _ => some xs
  | .ref n, S => match S[n]? with
    | some (SO.lst xs) => some xs
    | _ => none
  | _, _ => none
def lstOf : PV → Sto → Option (List PV)
  | .fl xs, _ => some xs
  | v, S => lstT v S
def tupOf : PV → Option (List PV)
  | .tup xs => some xs
  | .ct xs => some xs
  | _ => none
def seqOf (v : PV) (S : Sto) : Option (List PV) := match tupOf v with
  | some xs => some xs
  | none => lstOf v S
section
variable {g : Gm} {m : Mm} {S : Sto} {H : Hp} {x : PV} {v : V} {xs : List PV}
theorem lstT_rep (hS : RelS g m S H) (r : Rep g m H x v) (h : lstT x S = some xs) : ∃ a vs, v = .ref a ∧ H a = some (HO.lst vs) ∧ RepL g m H xs vs := by
  cases x with
  | nl ys =>
    unfold lstT at h
    cases h
    unfold Rep at r
    obtain ⟨a, vs, e, _, h1, h2⟩ := r
    exact ⟨a, vs, e, h1, h2⟩
  | ref n =>
    simp only [lstT] at h
    unfold Rep at r
    obtain ⟨a, e1, e2⟩ := r
    cases q : S[n]? with
    | none => rw [q] at h; cases h
    | some o =>
      cases o with
      | lst ys =>
        rw [q] at h
        have h : some ys = some xs := h
        obtain ⟨b, u, f1, f2, vs, rfl, f3⟩ := hS.at_ n _ q
        cases h
        rw [e1] at f1; cases f1
        exact ⟨a, vs, e2, f2, RepL.up _ _ f3⟩
      | dT ks => rw [q] at h; cases h
      | fz ks => rw [q] at h; cases h
  | _ => unfold lstT at h; cases h
theorem lstOf_rep (hS : RelS g m S H) (r : Rep g m H x v) (h : lstOf x S = some xs) : ∃ a vs, v = .ref a ∧ SqL g.K H a vs ∧ RepL g m H xs vs := by
  have other : lstT x S = some xs → ∃ a vs, v = .ref a ∧ SqL g.K H a vs ∧ RepL g m H xs vs := fun h => by
    obtain ⟨a, vs, e, h1, h2⟩ := lstT_rep hS r h
    exact ⟨a, vs, e, .inl (.inl h1), h2⟩
  cases x with
  | fl ys =>
    unfold lstOf at h
    cases h
    unfold Rep at r
    obtain ⟨a, vs, e, h1, h2⟩ := r
    refine ⟨a, vs, e, ?_, h2⟩
    rcases h1 with ⟨o, h1⟩ | h1
    · exact .inl (.inr ⟨o, h1⟩)
    · rcases h1 with h1 | h1
      · rcases h1 with h1 | ⟨o, h1⟩ <;> cases h1
      · exact .inr h1
  | _ => exact other h
theorem tup_rep (r : Rep g m H (.tup xs) v) : ∃ a vs, v = .ref a ∧ SqT g.K H a vs ∧ RepL g m H xs vs := by
  unfold Rep at r
  obtain ⟨a, vs, e, h, k⟩ := r
  exact ⟨a, vs, e, h, k⟩
theorem sqT_h0 {K : PySem.W.Frag} {H : Hp} {a : Addr} {vs : List V} (h : SqT K H0 a vs) : SqT K H a vs := by
  rcases h with h1 | h1
  · rcases h1 with h1 | ⟨o, h1⟩ <;> cases h1
  · exact .inr h1
theorem ct_rep (r : Rep g m H (.ct xs) v) : ∃ a vs, v = .ref a ∧ SqT g.K H a vs ∧ RepL g m H xs vs := by
  unfold Rep at r
  obtain ⟨a, vs, e, h, k⟩ := r
  exact ⟨a, vs, e, sqT_h0 h, k⟩
theorem seqOf_rep (hS : RelS g m S H) (r : Rep g m H x v) (h : seqOf x S = some xs) : ∃ a vs, v = .ref a ∧ (SqL g.K H a vs ∨ SqT g.K H a vs) ∧ RepL g m H xs vs := by
  cases x with
  | tup ys =>
    unfold seqOf at h
    have h : some ys = some xs := h
    cases h
    obtain ⟨a, vs, e, h1, h2⟩ := tup_rep r
    exact ⟨a, vs, e, .inr h1, h2⟩
  | ct ys =>
    unfold seqOf at h
    have h : some ys = some xs := h
    cases h
    obtain ⟨a, vs, e, h1, h2⟩ := ct_rep r
    exact ⟨a, vs, e, .inr h1, h2⟩
  | _ =>
    obtain ⟨a, vs, e, h1, h2⟩ := lstOf_rep hS r h
    exact ⟨a, vs, e, .inl h1, h2⟩
theorem rep_int {i : Int} (r : Rep g m H (.int i) v) : v = .int i := by unfold Rep at r; exact r
theorem rep_bl {b : Bool} (r : Rep g m H (.bl b) v) : v = .bl b := by unfold Rep at r; exact r
theorem rep_str {b : Str} (r : Rep g m H (.str b) v) : v = .str b := by unfold Rep at r; exact r
theorem rep_non (r : Rep g m H .non v) : v = .non := by unfold Rep at r; exact r
theorem rep_ty {n : String} (r : Rep g m H (.ty n) v) : v = .ty n := by unfold Rep at r; exact r
theorem mk_int (i : Int) : Rep g m H (.int i) (.int i) := by unfold Rep; rfl
theorem mk_bl (i : Bool) : Rep g m H (.bl i) (.bl i) := by unfold Rep; rfl
theorem mk_str (i : Str) : Rep g m H (.str i) (.str i) := by unfold Rep; rfl
theorem mk_non : Rep g m H .non .non := by unfold Rep; rfl
theorem mk_ty (n : String) : Rep g m H (.ty n) (.ty n) := by unfold Rep; rfl
end

/-! ### names, constants -/
def dC (v : PV) : EnP → Sto → Res PV := fun _ S => .ok v S
def dV (i : Nat) : EnP → Sto → Res PV := fun ρ S => match ρ[i]? with
  | some (some v) => .ok v S
  | _ => .bad
section
variable {X : Cx} {T : Tb} {W : WX} {pos : Pos}
theorem ce_c {e : Expr} {v : V} {x : PV} (h : PE X e (tC v)) (r : ∀ m H, Rep (gm X T) m H x v) : CE X T W e (dC x) :=
  pe_imp h fun σ H Q ⟨ρ, S, m, _, hS, p⟩ => p m H v (Step.refl m H) hS (r m H)
theorem ce_int {i : Int} {j : Nat} : CE X T W (.Constant (.int i) j pos) (dC (.int i)) := ce_c pe_int fun _ _ => mk_int i
theorem ce_bl {i : Bool} {j : Nat} : CE X T W (.Constant (.bool i) j pos) (dC (.bl i)) := ce_c pe_bl fun _ _ => mk_bl i
theorem ce_str {i : Str} {j : Nat} : CE X T W (.Constant (.str i) j pos) (dC (.str i)) := ce_c pe_str fun _ _ => mk_str i
theorem ce_non {j : Nat} : CE X T W (.Constant .none j pos) (dC .non) := ce_c pe_non fun _ _ => mk_non
theorem ce_v (i : Nat) {x : Str} (hN : X.N[i]? = some x := by rfl) (hv : Vis X.env.scope x := by first | exact Or.inl rfl | exact Or.inr (Or.inl rfl) | exact Or.inr (Or.inr rfl)) (hd : (x == ("__debug__" : Str)) = false := by decide)
    (hcd : (x == ("__classdict__" : Str)) = false := by decide) : CE X T W (.Name x pos) (dV i) :=
  pe_imp (pe_var hN hv hd hcd) fun σ H Q ⟨ρ, S, m, hE, hS, p⟩ => by
    unfold dV at p
    split at p
    · rename_i v e
      obtain ⟨w, e1, e2⟩ := hE.at_ i v e
      exact ⟨w, e1, p m H w (Step.refl m H) hS e2⟩
    · exact p.elim
theorem ce_gint {x : Str} {i : Int} {t : Tok} (hg : Gl X x) (hm : X.mg x = some (.int i t)) (hd : (x == ("__debug__" : Str)) = false := by decide) : CE X T W (.Name x pos) (dC (.int i)) := ce_c (v := .int i) (pe_glob hg hm ⟨t, rfl⟩ hd) fun _ _ => mk_int i
theorem ce_gstr {x : Str} {i : Str} {t : Tok} (hg : Gl X x) (hm : X.mg x = some (.str i t)) (hd : (x == ("__debug__" : Str)) = false := by decide) : CE X T W (.Name x pos) (dC (.str i)) := ce_c (v := .str i) (pe_glob hg hm ⟨t, rfl⟩ hd) fun _ _ => mk_str i
theorem ce_gfn {x : Str} {f : Addr} (hg : Gl X x) (hm : X.mg x = some (.ref f)) (hd : (x == ("__debug__" : Str)) = false := by decide) : CE X T W (.Name x pos) (dC (.glb x)) :=
  ce_c (v := .ref f) (pe_glob hg hm rfl hd) fun _ _ => by unfold Rep; exact ⟨f, hm, rfl⟩
theorem ce_bty {x : Str} {n : String} (hg : Gl X x) (hm : X.mg x = none) (hv : bootBuiltins x = some (.type n)) (hn : x ≠ "__name__" := by decide) (hd : (x == ("__debug__" : Str)) = false := by decide) : CE X T W (.Name x pos) (dC (.ty n)) :=
  ce_c (v := .ty n) (pe_bltn hg hm hv rfl hn hd) fun _ _ => mk_ty n
end

/-! ### two operands -/
def dBin (f : PV → PV → Sto → Res PV) (da db : EnP → Sto → Res PV) : EnP → Sto → Res PV := fun ρ S => (da ρ S).bind fun x S1 => (db ρ S1).bind fun y S2 => f x y S2
def dUn (f : PV → Sto → Res PV) (da : EnP → Sto → Res PV) : EnP → Sto → Res PV := fun ρ S => (da ρ S).bind fun x S1 => f x S1
/-- an operation on trees is sound for one on values -/
def Snd (g : Gm) (r : R2) (f : PV → PV → Sto → Res PV) : Prop :=
  ∀ (W : WX) (σ : L2.St) (m : Mm) (S : Sto) (H : Hp) (x y : PV) (v u : V) (Q : VK), RelS g m S H → Rep g m H x v → Rep g m H y u → PostV g W σ m H Q (f x y S) → r v u H Q
def Snd1 (g : Gm) (r : V → Hp → VK → Prop) (f : PV → Sto → Res PV) : Prop :=
  ∀ (W : WX) (σ : L2.St) (m : Mm) (S : Sto) (H : Hp) (x : PV) (v : V) (Q : VK), RelS g m S H → Rep g m H x v → PostV g W σ m H Q (f x S) → r v H Q
section
variable {X : Cx} {T : Tb} {W : WX} {pos : Pos} {a b : Expr} {da db : EnP → Sto → Res PV} {f : PV → PV → Sto → Res PV} {r : R2}
theorem two_of (hs : Snd (gm X T) r f) {σ : L2.St} {H : Hp} {Q : VK} (h : tv (gm X T) W (dBin f da db) σ H Q) : tOp r (tv (gm X T) W da) (tv (gm X T) W db) σ H Q := by
  obtain ⟨ρ, S, m, hE, hS, p⟩ := h
  exact tr_bind (f := fun a ρ S1 => (db ρ S1).bind fun y S2 => f a y S2) hE hS p fun x S1 m1 H1 w s1 hE1 hS1 hr1 p1 => tr_bind (f := fun b ρ S2 => f x b S2) hE1 hS1 p1 fun y S2 m2 H2 w2 s2 hE2 hS2 hr2 p2 => hs W σ m2 S2 H2 x y w w2 Q hS2 (hr1.step s2) hr2 p2
theorem ce_bin {op : Operator} (ho : OpR X (binaryOp op) r) (hs : Snd (gm X T) r f) (ha : CE X T W a da) (hb : CE X T W b db) : CE X T W (.BinOp a op b pos) (dBin f da db) :=
  pe_imp (pe_op ho ha hb) fun σ H Q h => two_of hs h
theorem ce_cmp {op : CmpOp} (ho : OpR X (compareOp op) r) (hs : Snd (gm X T) r f) (ha : CE X T W a da) (hb : CE X T W b db) (hm : behindInMarks op b = false) : CE X T W (.Compare a [op] [b] pos) (dBin f da db) :=
  pe_imp (pe_cmpR ho ha hb hm) fun σ H Q h => two_of hs h
/-- a value that must be a bool -/
def asB : Res PV → Res Bool
  | .ok (.bl b) S => .ok b S
  | .exc c fs S => .exc c fs S
  | _ => .bad
theorem asB_post {g : Gm} {σ : L2.St} {m : Mm} {H : Hp} {Q : Bool → Hp → Prop} {r : Res PV} (p : PostB g W σ m H Q (asB r)) : PostV g W σ m H (fun x H' => ∃ k, x = .bl k ∧ Q k H') r := by
  cases r with
  | ok v S =>
    cases v with
    | bl b => exact fun m' H' w s h1 h2 => ⟨b, rep_bl h2, p m' H' b s h1 rfl⟩
    | _ => exact p.elim
  | exc c fs S => exact p
  | bad => exact p
def dB (d : EnP → Sto → Res PV) : EnP → Sto → Res Bool := fun ρ S => asB (d ρ S)
theorem ct_cmp {op : CmpOp} (ho : OpR X (compareOp op) r) (hs : Snd (gm X T) r f) (ha : CE X T W a da) (hb : CE X T W b db) (hm : behindInMarks op b = false) : CT X T W (.Compare a [op] [b] pos) (dB (dBin f da db)) :=
  pt_imp (pt_cmpR ho ha hb hm) fun σ H Q ⟨ρ, S, m, hE, hS, p⟩ => two_of hs ⟨ρ, S, m, hE, hS, asB_post p⟩
theorem ce_un {op : UnaryOp} {r : V → Hp → VK → Prop} {f : PV → Sto → Res PV} (ho : UnR X (unaryOp op) r) (hs : Snd1 (gm X T) r f) (ha : CE X T W a da) : CE X T W (.UnaryOp op a pos) (dUn f da) :=
  pe_imp (pe_un ho ha) fun σ H Q ⟨ρ, S, m, hE, hS, p⟩ => tr_bind (f := fun x ρ S1 => f x S1) hE hS p fun x S1 m1 H1 w s1 hE1 hS1 hr1 p1 => hs W σ m1 S1 H1 x w Q hS1 hr1 p1
end
/-! ### arithmetic -/
def fAdd (mt : Bool) : PV → PV → Sto → Res PV
  | .int i, .int j, S => .ok (.int (i + j)) S
  | .str a, .str b, S => if a.length + b.length ≤ lim then .ok (.str (a ++ b)) S else .bad
  | .tup xs, .tup ys, S => mkTup (xs ++ ys) S
  | x, y, S => match lstT x S, lstT y S with
    | some xs, some ys => mkLst mt (xs ++ ys) S
    | _, _ => .bad
def fSub : PV → PV → Sto → Res PV
  | .int i, .int j, S => .ok (.int (i - j)) S
  | _, _, _ => .bad
def fMul (mt : Bool) : PV → PV → Sto → Res PV
  | .int i, .int j, S => if i.natAbs.log2 + j.natAbs.log2 < 100000000 then .ok (.int (i * j)) S else .bad
  | x, .int k, S => match lstT x S with
    | some xs => if 0 ≤ k ∧ k ≤ 1000 ∧ xs.length ≤ 1000 then mkLst mt (List.replicate k.toNat xs).flatten S else .bad
    | none => .bad
  | _, _, _ => .bad
def fDiv : PV → PV → Sto → Res PV
  | .int i, .int j, S => if j ≠ 0 ∧ j.natAbs.log2 < 9000 then .ok (.int (i.fdiv j)) S else .bad
  | _, _, _ => .bad
def fMod : PV → PV → Sto → Res PV
  | .int i, .int j, S => if j ≠ 0 then .ok (.int (i.fmod j)) S else .bad
  | _, _, _ => .bad
def fPow : PV → PV → Sto → Res PV
  | .int i, .int j, S => if 0 ≤ j ∧ j ≤ 1000000 ∧ i.natAbs < 2 ^ 64 then .ok (.int (i ^ j.toNat)) S else .bad
  | _, _, _ => .bad
def rAddM (K : PySem.W.Frag) : R2 := fun x y H Q => (rI0 (fun i j => .int (i + j)) x y H Q ∨ (∃ i j, x = .str i ∧ y = .str j ∧ i.length + j.length ≤ sizeLine ∧ Q (.str (i ++ j)) H)) ∨ (rCatA K x y H Q ∨ rCat x y H Q)
section
variable {X : Cx} {T : Tb}
theorem op_addM : OpR X (binaryOp .Add) (rAddM X.K) := (op_add.or op_add_str).or (op_catA.or op_cat)
theorem sn_add (mt : Bool) (hb : mt = true → Bare (gm X T)) : Snd (gm X T) (rAddM X.K) (fAdd mt) := by
  intro W σ m S H x y v u Q hS rx ry p
  have lists : PostV (gm X T) W σ m H Q (match lstT x S, lstT y S with | some xs, some ys => mkLst mt (xs ++ ys) S | _, _ => .bad) → rAddM X.K v u H Q := fun p => by
    cases e1 : lstT x S with
    | none => rw [e1] at p; exact p.elim
    | some xs =>
      cases e2 : lstT y S with
      | none => rw [e1, e2] at p; exact p.elim
      | some ys =>
        rw [e1, e2] at p
        obtain ⟨a, vs, rfl, h1, r1⟩ := lstT_rep hS rx e1
        obtain ⟨b, us, rfl, h2, r2⟩ := lstT_rep hS ry e2
        obtain ⟨z, q⟩ := new_lst hb hS (r1.append r2) p
        rw [List.length_append] at z
        exact .inr (.inr ⟨a, b, vs, us, rfl, rfl, h1, h2, z, q⟩)
  unfold fAdd at p
  split at p
  · cases rep_int rx
    cases rep_int ry
    exact .inl (.inl ⟨_, _, rfl, rfl, p.here hS (mk_int _)⟩)
  · cases rep_str rx
    cases rep_str ry
    split at p
    · rename_i h
      exact .inl (.inr ⟨_, _, rfl, rfl, lim_line h, p.here hS (mk_str _)⟩)
    · exact p.elim
  · rename_i xs ys
    obtain ⟨a, vs, rfl, h1, r1⟩ := tup_rep rx
    obtain ⟨b, us, rfl, h2, r2⟩ := tup_rep ry
    obtain ⟨z, q⟩ := new_tup hS (r1.append r2) p
    rw [List.length_append] at z
    have hz : xs.length + ys.length ≤ lim := by
      have e : vs.length + us.length ≤ sizeLine := z
      rw [sizeLine_eq, ← r1.length, ← r2.length] at e
      exact e
    have pt : ∀ w, Rep (gm X T) m H (.tup (xs ++ ys)) w → Q w H := fun w r => by
      unfold mkTup at p
      rw [if_pos (by rw [List.length_append]; exact hz)] at p
      exact p.here hS r
    refine .inr (.inl ⟨a, b, vs, us, rfl, rfl, h1, h2, z, fun e => ?_, fun _ e => ?_, fun _ _ => q⟩)
    · have e0 : xs = [] := by have := r1.length; rw [e] at this; exact List.length_eq_zero_iff.mp (by simpa using this)
      exact pt _ (by rw [e0]; exact ry)
    · have e0 : ys = [] := by have := r2.length; rw [e] at this; exact List.length_eq_zero_iff.mp (by simpa using this)
      exact pt _ (by rw [e0, List.append_nil]; exact rx)
  · exact lists p
theorem sn_sub : Snd (gm X T) (rI0 fun i j => .int (i - j)) fSub := by
  intro W σ m S H x y v u Q hS rx ry p
  unfold fSub at p
  split at p
  · cases rep_int rx
    cases rep_int ry
    exact ⟨_, _, rfl, rfl, p.here hS (mk_int _)⟩
  · exact p.elim
theorem mulX_of {i j : Int} (h : i.natAbs.log2 + j.natAbs.log2 < 100000000) : CMulX i j := by
  have b : ∀ x : Int, Builtin.Int.intBits x ≤ x.natAbs.log2 + 1 := fun x => by
    unfold Builtin.Int.intBits
    split <;> omega
  have h1 := b i
  have h2 := b j
  unfold CMulX
  omega
def rMulM : R2 := fun x y H Q => rI CMulX (fun i j => .int (i * j)) x y H Q ∨ rRep x y H Q
theorem op_mulM : OpR X (binaryOp .Mult) rMulM := op_mulX.or op_rep
theorem flat_len (k : Nat) (xs : List PV) : (List.replicate k xs).flatten.length = k * xs.length := by
  induction k with
  | zero => simp
  | succ k ih => rw [List.replicate_succ, List.flatten_cons, List.length_append, ih, Nat.succ_mul, Nat.add_comm]
theorem flat_rep {g : Gm} {m : Mm} {H : Hp} {xs : List PV} {vs : List V} (r : RepL g m H xs vs) : ∀ k : Nat, RepL g m H (List.replicate k xs).flatten (List.replicate k vs).flatten
  | 0 => RepL.nil
  | k + 1 => by
    rw [List.replicate_succ, List.flatten_cons, List.replicate_succ, List.flatten_cons]
    exact r.append (flat_rep r k)
theorem sn_mul (mt : Bool) (hb : mt = true → Bare (gm X T)) : Snd (gm X T) rMulM (fMul mt) := by
  intro W σ m S H x y v u Q hS rx ry p
  unfold fMul at p
  split at p
  · cases rep_int rx
    cases rep_int ry
    split at p
    · rename_i h
      exact .inl ⟨_, _, rfl, rfl, mulX_of h, p.here hS (mk_int _)⟩
    · exact p.elim
  · cases rep_int ry
    rename_i k _
    cases e1 : lstT x S with
    | none => rw [e1] at p; exact p.elim
    | some xs =>
      rw [e1] at p
      obtain ⟨a, vs, rfl, h1, r1⟩ := lstT_rep hS rx e1
      have p : PostV (gm X T) W σ m H Q (if 0 ≤ k ∧ k ≤ 1000 ∧ xs.length ≤ 1000 then mkLst mt (List.replicate k.toNat xs).flatten S else .bad) := p
      split at p
      · rename_i h
        obtain ⟨z1, z2, z3⟩ := h
        obtain ⟨z, q⟩ := new_lst hb hS (flat_rep r1 k.toNat) p
        refine .inr ⟨a, k, vs, rfl, rfl, h1, by omega, by omega, ?_, q⟩
        rw [sizeLine_eq, ← r1.length]
        have := Nat.mul_le_mul z3 (show k.toNat ≤ 1000 by omega)
        omega
      · exact p.elim
  · exact p.elim
theorem op_fdivA : OpR X (binaryOp .FloorDiv) (rI (fun _ j => j ≠ 0 ∧ j.natAbs.log2 < 9000) fun i j => .int (i.fdiv j)) := opI fun _ _ _ _ _ _ _ hc q => floordiv_int hc.1 q (.inl (PyProof.noPylong_of_log2 hc.2))
theorem sn_div : Snd (gm X T) (rI (fun _ j => j ≠ 0 ∧ j.natAbs.log2 < 9000) fun i j => .int (i.fdiv j)) fDiv := by
  intro W σ m S H x y v u Q hS rx ry p
  unfold fDiv at p
  split at p
  · cases rep_int rx
    cases rep_int ry
    split at p
    · rename_i h
      exact ⟨_, _, rfl, rfl, h, p.here hS (mk_int _)⟩
    · exact p.elim
  · exact p.elim
theorem sn_mod : Snd (gm X T) (rI (fun _ j => j ≠ 0) fun i j => .int (i.fmod j)) fMod := by
  intro W σ m S H x y v u Q hS rx ry p
  unfold fMod at p
  split at p
  · cases rep_int rx
    cases rep_int ry
    split at p
    · rename_i h
      exact ⟨_, _, rfl, rfl, h, p.here hS (mk_int _)⟩
    · exact p.elim
  · exact p.elim
theorem sn_pow : Snd (gm X T) (rI CPow fun i j => .int (i ^ j.toNat)) fPow := by
  intro W σ m S H x y v u Q hS rx ry p
  unfold fPow at p
  split at p
  · cases rep_int rx
    cases rep_int ry
    split at p
    · rename_i h
      exact ⟨_, _, rfl, rfl, h, p.here hS (mk_int _)⟩
    · exact p.elim
  · exact p.elim
def fNeg : PV → Sto → Res PV
  | .int i, S => .ok (.int (-i)) S
  | _, _ => .bad
theorem sn_neg : Snd1 (gm X T) (rU fun i => .int (-i)) fNeg := by
  intro W σ m S H x v Q hS rx p
  unfold fNeg at p
  split at p
  · cases rep_int rx
    exact ⟨_, rfl, p.here hS (mk_int _)⟩
  · exact p.elim
end
end Mi
end
section
set_option Elab.async false
set_option linter.all false
set_option maxRecDepth 100000
set_option maxHeartbeats 2000000
namespace Mi
open PySem PySem.Spec PyProof.Rows L2

/-! ### == and repr, by data -/
mutual
def toD : PV → Option PyData
  | .non => some .none
  | .bl b => some (.bool b)
  | .int i => some (.int i)
  | .str s => some (.str s)
  | .tup xs => (toDL xs).map PyData.tuple
  | .ct xs => (toDL xs).map PyData.tuple
  | .nl xs => (toDL xs).map PyData.list
  | .fl xs => (toDL xs).map PyData.list
  | _ => none
def toDL : List PV → Option (List PyData)
  | [] => some []
  | x :: xs => match toD x, toDL xs with
    | some d, some ds => some (d :: ds)
    | _, _ => none
end
def toDS : PV → Sto → Option PyData
  | .ref n, S => match S[n]? with
    | some (SO.lst xs) => (toDL xs).map PyData.list
    | _ => none
  | v, _ => toD v
section
variable {g : Gm} {m : Mm} {S : Sto} {H : Hp}
mutual
theorem dp_of : ∀ (x : PV) (v : V) (d : PyData), Rep g m H x v → toD x = some d → Dp g.K H v d
  | .non, v, d, r, e => by unfold toD at e; cases e; rw [rep_non r]; exact .non
  | .bl b, v, d, r, e => by unfold toD at e; cases e; rw [rep_bl r]; exact .bl b
  | .int i, v, d, r, e => by unfold toD at e; cases e; rw [rep_int r]; exact .int i
  | .str s, v, d, r, e => by unfold toD at e; cases e; rw [rep_str r]; exact .str s
  | .tup xs, v, d, r, e => by
    unfold toD at e
    obtain ⟨a, vs, rfl, h1, h2⟩ := tup_rep r
    cases q : toDL xs with
    | none => rw [q] at e; cases e
    | some ds => rw [q] at e; cases e; exact .tup h1 (dpL_of xs vs ds h2 q)
  | .ct xs, v, d, r, e => by
    unfold toD at e
    obtain ⟨a, vs, rfl, h1, h2⟩ := ct_rep r
    cases q : toDL xs with
    | none => rw [q] at e; cases e
    | some ds => rw [q] at e; cases e; exact .tup h1 (dpL_of xs vs ds h2 q)
  | .nl xs, v, d, r, e => by
    unfold toD at e
    unfold Rep at r
    obtain ⟨a, vs, rfl, _, h1, h2⟩ := r
    cases q : toDL xs with
    | none => rw [q] at e; cases e
    | some ds => rw [q] at e; cases e; exact .lst (.inl (.inl h1)) (dpL_of xs vs ds h2 q)
  | .fl xs, v, d, r, e => by
    unfold toD at e
    unfold Rep at r
    obtain ⟨a, vs, rfl, h1, h2⟩ := r
    cases q : toDL xs with
    | none => rw [q] at e; cases e
    | some ds =>
      rw [q] at e
      cases e
      refine .lst ?_ (dpL_of xs vs ds h2 q)
      rcases h1 with ⟨o, h1⟩ | h1
      · exact .inl (.inr ⟨o, h1⟩)
      · rcases h1 with h1 | h1
        · rcases h1 with h1 | ⟨o, h1⟩ <;> cases h1
        · exact .inr h1
  | .nd _ _, _, _, _, e => by unfold toD at e; cases e
  | .ref _, _, _, _, e => by unfold toD at e; cases e
  | .ty _, _, _, _, e => by unfold toD at e; cases e
  | .glb _, _, _, _, e => by unfold toD at e; cases e
  | .err, _, _, _, e => by unfold toD at e; cases e
  | .lam, _, _, _, e => by unfold toD at e; cases e
theorem dpL_of : ∀ (xs : List PV) (vs : List V) (ds : List PyData), RepL g m H xs vs → toDL xs = some ds → DpAll g.K H vs ds
  | [], vs, ds, r, e => by
    unfold toDL at e
    cases e
    unfold RepL at r
    rw [r]
    exact .nil
  | x :: xs, vs, ds, r, e => by
    unfold toDL at e
    unfold RepL at r
    obtain ⟨v, ws, rfl, h1, h2⟩ := r
    cases q1 : toD x with
    | none => rw [q1] at e; cases e
    | some d =>
      cases q2 : toDL xs with
      | none => rw [q1, q2] at e; cases e
      | some es =>
        rw [q1, q2] at e
        cases e
        exact .cons (dp_of x v d h1 q1) (dpL_of xs ws es h2 q2)
end
theorem dpS_of {x : PV} {v : V} {d : PyData} (hS : RelS g m S H) (r : Rep g m H x v) (e : toDS x S = some d) : Dp g.K H v d := by
  cases x with
  | ref n =>
    simp only [toDS] at e
    cases q : S[n]? with
    | none => rw [q] at e; cases e
    | some o =>
      cases o with
      | lst xs =>
        rw [q] at e
        have e : (toDL xs).map PyData.list = some d := e
        obtain ⟨a, u, f1, f2, vs, rfl, f3⟩ := hS.at_ n _ q
        unfold Rep at r
        obtain ⟨b, e1, e2⟩ := r
        rw [f1] at e1; cases e1
        cases q2 : toDL xs with
        | none => rw [q2] at e; cases e
        | some ds => rw [q2] at e; cases e; rw [e2]; exact .lst (.inl (.inl f2)) (dpL_of xs vs ds (RepL.up _ _ f3) q2)
      | dT ks => rw [q] at e; cases e
      | fz ks => rw [q] at e; cases e
  | _ => exact dp_of _ v d r e
end
def fEq (neg : Bool) (x y : PV) (S : Sto) : Res PV := match toDS x S, toDS y S with
  | some d, some e => if SeqAt.shaped d = true ∧ SeqAt.shaped e = true then .ok (.bl (if neg = true then !PyData.eqv d e else PyData.eqv d e)) S else .bad
  | _, _ => .bad
section
variable {X : Cx} {T : Tb}
theorem sn_eq : Snd (gm X T) (rEqD X.K) (fEq false) := by
  intro W σ m S H x y v u Q hS rx ry p
  unfold fEq at p
  split at p
  · rename_i d e h1 h2
    split at p
    · rename_i h
      exact ⟨d, e, dpS_of hS rx h1, dpS_of hS ry h2, h.1, h.2, p.here hS (mk_bl _)⟩
    · exact p.elim
  · exact p.elim
theorem sn_ne : Snd (gm X T) (rNeD X.K) (fEq true) := by
  intro W σ m S H x y v u Q hS rx ry p
  unfold fEq at p
  split at p
  · rename_i d e h1 h2
    split at p
    · rename_i h
      exact ⟨d, e, dpS_of hS rx h1, dpS_of hS ry h2, h.1, h.2, p.here hS (mk_bl _)⟩
    · exact p.elim
  · exact p.elim
def fCmpI (f : Int → Int → Bool) : PV → PV → Sto → Res PV
  | .int i, .int j, S => .ok (.bl (f i j)) S
  | _, _, _ => .bad
theorem sn_cmpI (f : Int → Int → Bool) : Snd (gm X T) (rI0 fun i j => .bl (f i j)) (fCmpI f) := by
  intro W σ m S H x y v u Q hS rx ry p
  unfold fCmpI at p
  split at p
  · cases rep_int rx
    cases rep_int ry
    exact ⟨_, _, rfl, rfl, p.here hS (mk_bl _)⟩
  · exact p.elim
abbrev iLt (i j : Int) : Bool := decide (i < j)
abbrev iLe (i j : Int) : Bool := decide (i ≤ j)
abbrev iGt (i j : Int) : Bool := decide (j < i)
abbrev iGe (i j : Int) : Bool := decide (j ≤ i)
/-- < and <= of texts, by their signs -/
def fCmpS (f : List Nat → List Nat → Bool) : PV → PV → Sto → Res PV
  | .str i, .str j, S => .ok (.bl (f i.cps.toList j.cps.toList)) S
  | _, _, _ => .bad
/-- is, is not, of a bool -/
def isBv : PV → Bool → Bool
  | .bl a, b => a == b
  | _, _ => false
def fIs (neg : Bool) : PV → PV → Sto → Res PV
  | x, .bl b, S => .ok (.bl (if neg = true then !isBv x b else isBv x b)) S
  | _, _, _ => .bad
def isNon : PV → Bool
  | .non => true
  | _ => false
def fIsN (neg : Bool) : PV → PV → Sto → Res PV
  | x, .non, S => .ok (.bl (if neg = true then !isNon x else isNon x)) S
  | _, _, _ => .bad
theorem isNon_rep {g : Gm} {m : Mm} {H : Hp} {x : PV} {v : V} (r : Rep g m H x v) : decide (v = V.non) = isNon x := by
  cases x with
  | non => rw [rep_non r]; simp [isNon]
  | bl b => rw [rep_bl r]; simp [isNon]
  | int b => rw [rep_int r]; simp [isNon]
  | str b => rw [rep_str r]; simp [isNon]
  | ty b => rw [rep_ty r]; simp [isNon]
  | tup xs => obtain ⟨a, vs, rfl, _⟩ := tup_rep r; simp [isNon]
  | ct xs => obtain ⟨a, vs, rfl, _⟩ := ct_rep r; simp [isNon]
  | nl xs => unfold Rep at r; obtain ⟨a, vs, rfl, _⟩ := r; simp [isNon]
  | fl xs => unfold Rep at r; obtain ⟨a, vs, rfl, _⟩ := r; simp [isNon]
  | nd ks xs => unfold Rep at r; obtain ⟨a, vs, rfl, _⟩ := r; simp [isNon]
  | ref n => unfold Rep at r; obtain ⟨a, _, rfl⟩ := r; simp [isNon]
  | glb n => unfold Rep at r; obtain ⟨a, _, rfl⟩ := r; simp [isNon]
  | err => unfold Rep at r; obtain ⟨a, _, rfl, _⟩ := r; simp [isNon]
  | lam => unfold Rep at r; obtain ⟨i, _, rfl, _⟩ := r; simp [isNon]
theorem sn_isN : Snd (gm X T) (fun x y H Q => y = .non ∧ Q (.bl (decide (x = .non))) H) (fIsN false) := by
  intro W σ m S H x y v u Q hS rx ry p
  unfold fIsN at p
  split at p
  · rw [isNon_rep rx]
    exact ⟨rep_non ry, p.here hS (mk_bl _)⟩
  · exact p.elim
theorem sn_notN : Snd (gm X T) (fun x y H Q => y = .non ∧ Q (.bl (!decide (x = .non))) H) (fIsN true) := by
  intro W σ m S H x y v u Q hS rx ry p
  unfold fIsN at p
  split at p
  · rw [isNon_rep rx]
    exact ⟨rep_non ry, p.here hS (mk_bl _)⟩
  · exact p.elim
theorem dec_beq (a b : Bool) : decide (a = b) = (a == b) := by cases a <;> cases b <;> rfl
theorem isBv_rep {g : Gm} {m : Mm} {H : Hp} {x : PV} {v : V} {b : Bool} (r : Rep g m H x v) : decide (v = V.bl b) = isBv x b := by
  cases x with
  | non => rw [rep_non r]; simp [isBv]
  | bl c => rw [rep_bl r]; simp [isBv]; exact dec_beq c b
  | int b => rw [rep_int r]; simp [isBv]
  | str b => rw [rep_str r]; simp [isBv]
  | ty b => rw [rep_ty r]; simp [isBv]
  | tup xs => obtain ⟨a, vs, rfl, _⟩ := tup_rep r; simp [isBv]
  | ct xs => obtain ⟨a, vs, rfl, _⟩ := ct_rep r; simp [isBv]
  | nl xs => unfold Rep at r; obtain ⟨a, vs, rfl, _⟩ := r; simp [isBv]
  | fl xs => unfold Rep at r; obtain ⟨a, vs, rfl, _⟩ := r; simp [isBv]
  | nd ks xs => unfold Rep at r; obtain ⟨a, vs, rfl, _⟩ := r; simp [isBv]
  | ref n => unfold Rep at r; obtain ⟨a, _, rfl⟩ := r; simp [isBv]
  | glb n => unfold Rep at r; obtain ⟨a, _, rfl⟩ := r; simp [isBv]
  | err => unfold Rep at r; obtain ⟨a, _, rfl, _⟩ := r; simp [isBv]
  | lam => unfold Rep at r; obtain ⟨i, _, rfl, _⟩ := r; simp [isBv]
/-- any value is, is not a bool -/
def rIsA : R2 := fun x y H Q => ∃ b : Bool, y = .bl b ∧ Q (.bl (decide (x = .bl b))) H
def rNotA : R2 := fun x y H Q => ∃ b : Bool, y = .bl b ∧ Q (.bl (!decide (x = .bl b))) H
theorem same_b {M : Model} {A : Around} {E : Value → Shared → Prop} {s : Shared} {x : V} {u : Value} {b : Bool} {R : Bool → Shared → Prop} (r : RelV x u) (q : R (decide (x = .bl b)) s) : wpAny M A (isSame u (.bool b)) R E s := by
  have go : ∀ {u : Value}, plainIs u (.bool b) = true → (u == Value.bool b) = decide (x = .bl b) → wpAny M A (isSame u (.bool b)) R E s := fun h1 h2 => wpAny_isSame_plain h1 (by rw [h2]; exact q)
  cases x with
  | ref a => cases r; exact go rfl rfl
  | non => cases r; exact go rfl rfl
  | bl c =>
    cases r
    refine go rfl ?_
    cases b <;> cases c <;> rfl
  | int i => obtain ⟨t, rfl⟩ := r; exact go rfl rfl
  | str x => obtain ⟨t, rfl⟩ := r; exact go rfl rfl
  | byt x => obtain ⟨t, rfl⟩ := r; exact go rfl rfl
  | flt x => obtain ⟨t, rfl⟩ := r; exact go rfl rfl
  | ty n => cases r; exact go rfl rfl
theorem op_isA : OpR X (compareOp .Is) rIsA := by
  intro pins s σ H x y v u Q I rx ry h
  obtain ⟨b, rfl, q⟩ := h
  cases (show u = Value.bool b from ry)
  show wpAny _ _ ((isSame v (Value.bool b)) >>= fun z => pure (Value.bool z)) _ _ s
  exact wpAny_bind (same_b rx (wpAny_pure ⟨.bl _, H, I, rfl, q⟩))
theorem op_notA : OpR X (compareOp .IsNot) rNotA := by
  intro pins s σ H x y v u Q I rx ry h
  obtain ⟨b, rfl, q⟩ := h
  cases (show u = Value.bool b from ry)
  show wpAny _ _ ((isSame v (Value.bool b)) >>= fun z => pure (Value.bool (!z))) _ _ s
  exact wpAny_bind (same_b rx (wpAny_pure ⟨.bl _, H, I, rfl, q⟩))
theorem sn_isB : Snd (gm X T) rIsA (fIs false) := by
  intro W σ m S H x y v u Q hS rx ry p
  unfold fIs at p
  split at p
  · refine ⟨_, rep_bl ry, ?_⟩
    rw [isBv_rep rx]
    exact p.here hS (mk_bl _)
  · exact p.elim
theorem sn_notB : Snd (gm X T) rNotA (fIs true) := by
  intro W σ m S H x y v u Q hS rx ry p
  unfold fIs at p
  split at p
  · refine ⟨_, rep_bl ry, ?_⟩
    rw [isBv_rep rx]
    exact p.here hS (mk_bl _)
  · exact p.elim
end
/-- x in (flat items) -/
def flatP : PV → Bool
  | .non | .bl _ | .int _ | .str _ => true
  | _ => false
def toV : PV → V
  | .non => .non
  | .bl b => .bl b
  | .int i => .int i
  | .str s => .str s
  | _ => .non
def eqP (x y : PV) : Bool := eqV (toV x) (toV y)
def inP (x : PV) (xs : List PV) : Bool := xs.any fun y => eqP y x
def fIn (neg : Bool) (x y : PV) (S : Sto) : Res PV := match seqOf y S with
  | some xs => if flatP x = true ∧ xs.all flatP = true then .ok (.bl (if neg = true then !inP x xs else inP x xs)) S else .bad
  | none => .bad
section
variable {X : Cx} {T : Tb}
theorem toV_rep {g : Gm} {m : Mm} {H : Hp} {x : PV} {v : V} (r : Rep g m H x v) (h : flatP x = true) : v = toV x ∧ flatV v = true := by
  cases x with
  | non => rw [rep_non r]; exact ⟨rfl, rfl⟩
  | bl b => rw [rep_bl r]; exact ⟨rfl, rfl⟩
  | int b => rw [rep_int r]; exact ⟨rfl, rfl⟩
  | str b => rw [rep_str r]; exact ⟨rfl, rfl⟩
  | _ => cases h
theorem toVL_rep {g : Gm} {m : Mm} {H : Hp} : ∀ {xs : List PV} {vs : List V}, RepL g m H xs vs → xs.all flatP = true → vs = xs.map toV ∧ vs.all flatV = true
  | [], _, r, _ => by unfold RepL at r; rw [r]; exact ⟨rfl, rfl⟩
  | x :: xs, _, r, h => by
    unfold RepL at r
    obtain ⟨v, ws, rfl, h1, h2⟩ := r
    rw [List.all_cons, Bool.and_eq_true] at h
    obtain ⟨e1, f1⟩ := toV_rep h1 h.1
    obtain ⟨e2, f2⟩ := toVL_rep h2 h.2
    exact ⟨by rw [List.map_cons, ← e1, ← e2], by rw [List.all_cons, f1, f2]; rfl⟩
theorem sn_in (neg : Bool) : Snd (gm X T) (rIn X.K neg) (fIn neg) := by
  intro W σ m S H x y v u Q hS rx ry p
  unfold fIn at p
  split at p
  · rename_i xs e
    split at p
    · rename_i h
      obtain ⟨a, vs, rfl, h1, h2⟩ := seqOf_rep hS ry e
      obtain ⟨e1, f1⟩ := toV_rep rx h.1
      obtain ⟨e2, f2⟩ := toVL_rep h2 h.2
      refine ⟨a, vs, rfl, h1, f1, f2, ?_⟩
      have q : inV v vs = inP x xs := by
        rw [e1, e2]
        unfold inV inP
        rw [List.any_map]
        rfl
      cases neg with
      | false => rw [if_neg Bool.false_ne_true, q]; exact p.here hS (mk_bl _)
      | true => rw [if_pos rfl, q]; exact p.here hS (mk_bl _)
    · exact p.elim
  · exact p.elim
end

/-! ### and, or, not, if -/
def dAnd (da db : EnP → Sto → Res PV) : EnP → Sto → Res PV := fun ρ S => (da ρ S).bind fun x S1 => match x with
  | .bl true => db ρ S1
  | .bl false => .ok (.bl false) S1
  | _ => .bad
def dOr (da db : EnP → Sto → Res PV) : EnP → Sto → Res PV := fun ρ S => (da ρ S).bind fun x S1 => match x with
  | .bl true => .ok (.bl true) S1
  | .bl false => db ρ S1
  | _ => .bad
def dNot (da : EnP → Sto → Res PV) : EnP → Sto → Res PV := fun ρ S => (da ρ S).bind fun x S1 => match x with
  | .bl b => .ok (.bl (!b)) S1
  | _ => .bad
def bAnd (da db : EnP → Sto → Res Bool) : EnP → Sto → Res Bool := fun ρ S => (da ρ S).bind fun x S1 => if x = true then db ρ S1 else .ok false S1
def bOr (da db : EnP → Sto → Res Bool) : EnP → Sto → Res Bool := fun ρ S => (da ρ S).bind fun x S1 => if x = true then .ok true S1 else db ρ S1
def bNot (da : EnP → Sto → Res Bool) : EnP → Sto → Res Bool := fun ρ S => (da ρ S).bind fun x S1 => .ok (!x) S1
def dIf (dc : EnP → Sto → Res Bool) (da db : EnP → Sto → Res PV) : EnP → Sto → Res PV := fun ρ S => (dc ρ S).bind fun x S1 => if x = true then da ρ S1 else db ρ S1
section
variable {X : Cx} {T : Tb} {W : WX} {pos : Pos} {a b c : Expr} {rest : List Expr} {da db dc : EnP → Sto → Res PV} {ea eb : EnP → Sto → Res Bool}
theorem ce_one {op} (h : CE X T W a da) : CE X T W (.BoolOp op [a] pos) da := pe_one h
theorem ce_and (ha : CE X T W a da) (hb : CE X T W (.BoolOp .And (b :: rest) pos) db) : CE X T W (.BoolOp .And (a :: b :: rest) pos) (dAnd da db) :=
  pe_imp (pe_and ha hb) fun σ H Q ⟨ρ, S, m, hE, hS, p⟩ => tr_bind (f := fun (x : PV) (ρ : EnP) (S1 : Sto) => match x with | .bl true => db ρ S1 | .bl false => .ok (.bl false) S1 | _ => .bad) hE hS p fun x S1 m1 H1 w s1 hE1 hS1 hr1 p1 => by
    cases x with
    | bl k =>
      refine ⟨k, rep_bl hr1, ?_⟩
      cases k with
      | true => rw [if_pos rfl]; exact ⟨ρ, S1, m1, hE1, hS1, p1⟩
      | false => rw [if_neg Bool.false_ne_true]; exact PostR.here (a := PV.bl false) p1 hS1 (mk_bl _)
    | _ => exact p1.elim
theorem ce_or (ha : CE X T W a da) (hb : CE X T W (.BoolOp .Or (b :: rest) pos) db) : CE X T W (.BoolOp .Or (a :: b :: rest) pos) (dOr da db) :=
  pe_imp (pe_or ha hb) fun σ H Q ⟨ρ, S, m, hE, hS, p⟩ => tr_bind (f := fun (x : PV) (ρ : EnP) (S1 : Sto) => match x with | .bl true => .ok (.bl true) S1 | .bl false => db ρ S1 | _ => .bad) hE hS p fun x S1 m1 H1 w s1 hE1 hS1 hr1 p1 => by
    cases x with
    | bl k =>
      refine ⟨k, rep_bl hr1, ?_⟩
      cases k with
      | true => rw [if_pos rfl]; exact PostR.here (a := PV.bl true) p1 hS1 (mk_bl _)
      | false => rw [if_neg Bool.false_ne_true]; exact ⟨ρ, S1, m1, hE1, hS1, p1⟩
    | _ => exact p1.elim
theorem ce_not (ha : CE X T W a da) : CE X T W (.UnaryOp .Not a pos) (dNot da) :=
  pe_imp (pe_not ha) fun σ H Q ⟨ρ, S, m, hE, hS, p⟩ => tr_bind (f := fun (x : PV) (ρ : EnP) (S1 : Sto) => match x with | .bl b => Res.ok (PV.bl (!b)) S1 | _ => .bad) hE hS p fun x S1 m1 H1 w s1 hE1 hS1 hr1 p1 => by
    cases x with
    | bl k => exact ⟨k, rep_bl hr1, PostR.here (a := PV.bl (!k)) p1 hS1 (mk_bl _)⟩
    | _ => exact p1.elim
theorem cw_and1 (ha : CT X T W a ea) : CW X T W (.BoolOp .And [a] pos) ea := pw_and1 ha
theorem cw_or1 (ha : CT X T W a ea) : CW X T W (.BoolOp .Or [a] pos) ea := pw_or1 ha
theorem cw_and (ha : CT X T W a ea) (hb : CW X T W (.BoolOp .And (b :: rest) pos) eb) : CW X T W (.BoolOp .And (a :: b :: rest) pos) (bAnd ea eb) :=
  pw_imp (pw_and ha hb) fun σ H Q ⟨ρ, S, m, hE, hS, p⟩ => tr_bind (f := fun x ρ S1 => if x = true then eb ρ S1 else .ok false S1) hE hS p fun x S1 m1 H1 w s1 hE1 hS1 hr1 p1 => by
    cases hr1
    cases x with
    | true => rw [if_pos rfl] at p1 ⊢; exact ⟨ρ, S1, m1, hE1, hS1, p1⟩
    | false => rw [if_neg Bool.false_ne_true] at p1 ⊢; exact PostR.here (a := false) p1 hS1 rfl
theorem cw_or (ha : CT X T W a ea) (hb : CW X T W (.BoolOp .Or (b :: rest) pos) eb) : CW X T W (.BoolOp .Or (a :: b :: rest) pos) (bOr ea eb) :=
  pw_imp (pw_or ha hb) fun σ H Q ⟨ρ, S, m, hE, hS, p⟩ => tr_bind (f := fun x ρ S1 => if x = true then .ok true S1 else eb ρ S1) hE hS p fun x S1 m1 H1 w s1 hE1 hS1 hr1 p1 => by
    cases hr1
    cases x with
    | true => rw [if_pos rfl] at p1 ⊢; exact PostR.here (a := true) p1 hS1 rfl
    | false => rw [if_neg Bool.false_ne_true] at p1 ⊢; exact ⟨ρ, S1, m1, hE1, hS1, p1⟩
theorem ct_w (h : CW X T W a ea) : CT X T W a ea := h.pt
theorem ct_not (ha : CT X T W a ea) : CT X T W (.UnaryOp .Not a pos) (bNot ea) :=
  pt_imp (pt_not ha) fun σ H Q ⟨ρ, S, m, hE, hS, p⟩ => tr_bind (f := fun x ρ S1 => .ok (!x) S1) hE hS p fun x S1 m1 H1 w s1 hE1 hS1 hr1 p1 => by
    cases hr1
    exact PostR.here (a := !x) p1 hS1 rfl
theorem ce_if (hc : CT X T W c ea) (ha : CE X T W a da) (hb : CE X T W b db) : CE X T W (.IfExp c a b pos) (dIf ea da db) :=
  pe_imp (pe_ifExp hc ha hb) fun σ H Q ⟨ρ, S, m, hE, hS, p⟩ => tr_bind (f := fun x ρ S1 => if x = true then da ρ S1 else db ρ S1) hE hS p fun x S1 m1 H1 w s1 hE1 hS1 hr1 p1 => by
    cases hr1
    cases x with
    | true => rw [if_pos rfl] at p1 ⊢; exact ⟨ρ, S1, m1, hE1, hS1, p1⟩
    | false => rw [if_neg Bool.false_ne_true] at p1 ⊢; exact ⟨ρ, S1, m1, hE1, hS1, p1⟩
/-- a op1 b op2 c -/
def dChain (f f' : PV → PV → Sto → Res PV) (da db dc : EnP → Sto → Res PV) : EnP → Sto → Res PV := fun ρ S => (da ρ S).bind fun x S1 => (db ρ S1).bind fun y S2 => (f x y S2).bind fun z S3 => match z with
  | .bl true => (dc ρ S3).bind fun w S4 => f' y w S4
  | .bl false => .ok (.bl false) S3
  | _ => .bad
theorem chain_of {f f' : PV → PV → Sto → Res PV} {r r' : R2} (hs : Snd (gm X T) r f) (hs' : Snd (gm X T) r' f') {σ : L2.St} {H : Hp} {Q : VK} (h : tv (gm X T) W (dChain f f' da db dc) σ H Q) :
    tChain r r' (tv (gm X T) W da) (tv (gm X T) W db) (tv (gm X T) W dc) σ H Q := by
  obtain ⟨ρ, S, m, hE, hS, p⟩ := h
  refine tr_bind (f := fun x ρ S1 => (db ρ S1).bind fun y S2 => (f x y S2).bind fun z S3 => match z with
    | .bl true => (dc ρ S3).bind fun w S4 => f' y w S4
    | .bl false => .ok (.bl false) S3
    | _ => .bad) hE hS p fun x S1 m1 H1 w s1 hE1 hS1 hr1 p1 => ?_
  refine tr_bind (f := fun y ρ S2 => (f x y S2).bind fun z S3 => match z with
    | .bl true => (dc ρ S3).bind fun w S4 => f' y w S4
    | .bl false => .ok (.bl false) S3
    | _ => .bad) hE1 hS1 p1 fun y S2 m2 H2 w2 s2 hE2 hS2 hr2 p2 => ?_
  refine hs W σ m2 S2 H2 x y w w2 _ hS2 (hr1.step s2) hr2 ?_
  cases e : f x y S2 with
  | bad => rw [e] at p2; exact p2.elim
  | exc c fs S3 => rw [e] at p2; exact fun m' H' cls dd s h1 h2 => p2 m' H' cls dd s h1 h2
  | ok z S3 =>
    rw [e] at p2
    intro m3 H3 w3 s3 hS3 hr3
    cases z with
    | bl k =>
      refine ⟨k, rep_bl hr3, ?_⟩
      cases k with
      | true =>
        rw [if_pos rfl]
        have p3 : PostV (gm X T) W σ m2 H2 Q ((dc ρ S3).bind fun w S4 => f' y w S4) := p2
        exact tr_bind (f := fun w ρ S4 => f' y w S4) (hE2.step s3) hS3 (PostR.step s3 p3) fun z S4 m4 H4 w4 s4 hE4 hS4 hr4 p4 => hs' W σ m4 S4 H4 y z w2 w4 Q hS4 (hr2.step (s3.trans s4)) hr4 p4
      | false =>
        rw [if_neg Bool.false_ne_true]
        have p3 : PostV (gm X T) W σ m2 H2 Q (.ok (.bl false) S3) := p2
        exact p3 m3 H3 (.bl false) s3 hS3 (mk_bl _)
    | _ => exact p2.elim
theorem ce_chain {op op' : CmpOp} {f f' : PV → PV → Sto → Res PV} {r r' : R2} (ho : OpR X (compareOp op) r) (hs : Snd (gm X T) r f) (ho' : OpR X (compareOp op') r') (hs' : Snd (gm X T) r' f') (ha : CE X T W a da) (hb : CE X T W b db) (hc : CE X T W c dc)
    (hm : lastMarks [op, op'] [b, c] = false := by with_unfolding_all rfl) : CE X T W (.Compare a [op, op'] [b, c] pos) (dChain f f' da db dc) :=
  pe_imp (pe_chain ho ho' ha hb hc hm) fun σ H Q h => chain_of hs hs' h
theorem ct_chain {op op' : CmpOp} {f f' : PV → PV → Sto → Res PV} {r r' : R2} (ho : OpR X (compareOp op) r) (hs : Snd (gm X T) r f) (ho' : OpR X (compareOp op') r') (hs' : Snd (gm X T) r' f') (ha : CE X T W a da) (hb : CE X T W b db) (hc : CE X T W c dc)
    (hm : lastMarks [op, op'] [b, c] = false := by with_unfolding_all rfl) : CT X T W (.Compare a [op, op'] [b, c] pos) (dB (dChain f f' da db dc)) :=
  pt_imp (pt_chain ho ho' ha hb hc hm) fun σ H Q ⟨ρ, S, m, hE, hS, p⟩ => chain_of hs hs' ⟨ρ, S, m, hE, hS, asB_post p⟩
/-- a value's truth -/
def truP (x : PV) (S : Sto) : Option Bool := match x with
  | .non => some false
  | .bl b => some b
  | .int i => some (i != 0)
  | .str s => if s.length ≤ lim then some ((s.length : Int) != 0) else none
  | x => match seqOf x S with
    | some xs => some (!xs.isEmpty)
    | none => none
def dTru (da : EnP → Sto → Res PV) : EnP → Sto → Res Bool := fun ρ S => (da ρ S).bind fun x S1 => match truP x S1 with
  | some b => .ok b S1
  | none => .bad
theorem truP_rep {g : Gm} {m : Mm} {S : Sto} {H : Hp} {x : PV} {v : V} {k : Bool} (hS : RelS g m S H) (r : Rep g m H x v) (e : truP x S = some k) : TruV g.K v H k := by
  have sq : (match seqOf x S with | some xs => some (!xs.isEmpty) | none => none) = some k → TruV g.K v H k := fun e => by
    cases q : seqOf x S with
    | none => rw [q] at e; cases e
    | some xs =>
      rw [q] at e
      obtain ⟨a, vs, rfl, h1, h2⟩ := seqOf_rep hS r q
      have z : (!xs.isEmpty) = k := Option.some.inj e
      have z2 : xs.isEmpty = vs.isEmpty := by
        have l := h2.length
        cases xs <;> cases vs <;> first | rfl | cases l
      rw [z2] at z
      rcases h1 with h1 | h1
      · exact .inl ⟨vs, h1, z.symm⟩
      · exact .inr (.inl ⟨vs, h1, z.symm⟩)
  cases x with
  | non => rw [rep_non r]; cases e; rfl
  | bl b => rw [rep_bl r]; cases e; rfl
  | int i => rw [rep_int r]; cases e; rfl
  | str s =>
    rw [rep_str r]
    simp only [truP] at e
    split at e
    · rename_i h
      cases e
      exact ⟨lim_line h, rfl⟩
    · cases e
  | _ => exact sq e
theorem ct_tru (ha : CE X T W a da) (he : ∀ whole, isTrue a X.env whole = (do let v ← whole; standAt a.pos; holding [v] (truthy v)) := by intro _; rfl) : CT X T W a (dTru da) :=
  pt_imp (pt_truth ha he) fun σ H Q ⟨ρ, S, m, hE, hS, p⟩ => tr_bind (f := fun x ρ S1 => match truP x S1 with | some b => .ok b S1 | none => .bad) hE hS p fun x S1 m1 H1 w s1 hE1 hS1 hr1 p1 => by
    cases e : truP x S1 with
    | none => rw [e] at p1; exact p1.elim
    | some k => rw [e] at p1; exact ⟨k, truP_rep hS1 hr1 e, PostR.here (a := k) p1 hS1 rfl⟩
end
end Mi
end
section
set_option Elab.async false
set_option linter.all false
set_option maxRecDepth 100000
set_option maxHeartbeats 2000000
namespace Mi
open PySem PySem.Spec PyProof.Rows L2

/-! ### arguments, displays -/
def dNil : EnP → Sto → Res (List PV) := fun _ S => .ok [] S
def dCons (da : EnP → Sto → Res PV) (dr : EnP → Sto → Res (List PV)) : EnP → Sto → Res (List PV) := fun ρ S => (da ρ S).bind fun x S1 => (dr ρ S1).bind fun xs S2 => .ok (x :: xs) S2
def dTup (dl : EnP → Sto → Res (List PV)) : EnP → Sto → Res PV := fun ρ S => (dl ρ S).bind fun xs S1 => mkTup xs S1
def dLst (mt : Bool) (dl : EnP → Sto → Res (List PV)) : EnP → Sto → Res PV := fun ρ S => (dl ρ S).bind fun xs S1 => mkLst mt xs S1
/-- a call of what is known, by values -/
def dCB (f : List PV → Sto → Res PV) (dl : EnP → Sto → Res (List PV)) : EnP → Sto → Res PV := fun ρ S => (dl ρ S).bind fun xs S1 => f xs S1
def SndL (g : Gm) (r : List V → Hp → VK → Prop) (f : List PV → Sto → Res PV) : Prop :=
  ∀ (W : WX) (σ : L2.St) (m : Mm) (S : Sto) (H : Hp) (xs : List PV) (vs : List V) (Q : VK), RelS g m S H → RepL g m H xs vs → PostV g W σ m H Q (f xs S) → r vs H Q
section
variable {X : Cx} {T : Tb} {W : WX} {pos : Pos} {e : Expr} {es : List Expr} {da db : EnP → Sto → Res PV} {dl : EnP → Sto → Res (List PV)}
theorem ca_nil : CA X T W [] dNil := pa_imp pa_nil fun σ H Q ⟨ρ, S, m, hE, hS, p⟩ => PostR.here (a := ([] : List PV)) p hS RepL.nil
theorem ca_cons (ha : CE X T W e da) (hr : CA X T W es dl) (hs : starEach (e :: es) X.env = (false, eval e X.env) :: starEach es X.env := by rfl) : CA X T W (e :: es) (dCons da dl) :=
  pa_imp (pa_cons ha hr hs) fun σ H Q ⟨ρ, S, m, hE, hS, p⟩ => tr_bind (f := fun (x : PV) ρ S1 => (dl ρ S1).bind fun xs S2 => Res.ok (x :: xs) S2) hE hS p fun x S1 m1 H1 w s1 hE1 hS1 hr1 p1 =>
    tr_bind (f := fun (xs : List PV) _ S2 => Res.ok (x :: xs) S2) hE1 hS1 p1 fun xs S2 m2 H2 ws s2 hE2 hS2 hr2 p2 => PostR.here (a := x :: xs) p2 hS2 (RepL.cons (hr1.step s2) hr2)
theorem ce_tup {k : Nat} (h : CA X T W es dl) : CE X T W (.Tuple es k pos) (dTup dl) :=
  pe_imp (pe_tup h) fun σ H Q ⟨ρ, S, m, hE, hS, p⟩ => tr_bind (f := fun xs _ S1 => mkTup xs S1) hE hS p fun xs S1 m1 H1 ws s1 hE1 hS1 hr1 p1 => new_tup hS1 hr1 p1
theorem ce_lst (mt : Bool) (hb : mt = true → Bare (gm X T)) (h : CA X T W es dl) : CE X T W (.List es pos) (dLst mt dl) :=
  pe_imp (pe_lst h) fun σ H Q ⟨ρ, S, m, hE, hS, p⟩ => tr_bind (f := fun xs _ S1 => mkLst mt xs S1) hE hS p fun xs S1 m1 H1 ws s1 hE1 hS1 hr1 p1 => new_lst hb hS1 hr1 p1
theorem cb_of {f : List PV → Sto → Res PV} {r : List V → Hp → VK → Prop} (hs : SndL (gm X T) r f) {σ : L2.St} {H : Hp} {Q : VK} (h : tv (gm X T) W (dCB f dl) σ H Q) : tCB r (tl (gm X T) W dl) σ H Q := by
  obtain ⟨ρ, S, m, hE, hS, p⟩ := h
  exact tr_bind (f := fun xs _ S1 => f xs S1) hE hS p fun xs S1 m1 H1 ws s1 hE1 hS1 hr1 p1 => hs W σ m1 S1 H1 xs ws Q hS1 hr1 p1
theorem ce_callB {f : List PV → Sto → Res PV} {r : List V → Hp → VK → Prop} {x : Str} {id : String} {p : Pos} (hc : CallR X (.builtin id) r) (hs : SndL (gm X T) r f) (hg : Gl X x) (hm : X.mg x = none) (hv : bootBuiltins x = some (.builtin id)) (ha : CA X T W (e :: es) dl)
    (hn : x ≠ "__name__" := by decide) (hdb : (x == ("__debug__" : Str)) = false := by decide) (he : starEach (e :: es) X.env = (false, eval e X.env) :: starEach es X.env := by rfl) (hpl : (backTo pos (starEach es X.env)).any (·.1) = false := by rfl) :
    CE X T W (.Call (.Name x p) (e :: es) [] pos) (dCB f dl) := pe_imp (pe_callB hc hg hm hv ha hn hdb he hpl) fun σ H Q h => cb_of hs h
theorem ce_callTy {f : List PV → Sto → Res PV} {r : List V → Hp → VK → Prop} {x : Str} {ty : String} {p : Pos} (hc : CallR X (.type ty) r) (hs : SndL (gm X T) r f) (hg : Gl X x) (hm : X.mg x = none) (hv : bootBuiltins x = some (.type ty)) (ha : CA X T W (e :: es) dl)
    (hn : x ≠ "__name__" := by decide) (hdb : (x == ("__debug__" : Str)) = false := by decide) (he : starEach (e :: es) X.env = (false, eval e X.env) :: starEach es X.env := by rfl) (hpl : (backTo pos (starEach es X.env)).any (·.1) = false := by rfl) :
    CE X T W (.Call (.Name x p) (e :: es) [] pos) (dCB f dl) := pe_imp (pe_callTy hc hg hm hv ha hn hdb he hpl) fun σ H Q h => cb_of hs h
end

/-! ### subscripts, slices -/
def fIx : PV → PV → Sto → Res PV
  | .str s, .int i, S => match atI s.cps.toList i with
    | some c => if s.length ≤ lim then .ok (.str ⟨#[c]⟩) S else .bad
    | none => .bad
  | x, .int i, S => match seqOf x S with
    | some xs => (match atI xs i with
      | some v => .ok v S
      | none => .bad)
    | none => .bad
  | _, _, _ => .bad
def cutP (xs : List PV) (lo hi : Option Int) : List PV := (xs.drop (HT.sIx xs.length 0 lo)).take (HT.sIx xs.length xs.length hi - HT.sIx xs.length 0 lo)
def fSl (mt : Bool) (x : PV) (lo hi : Option Int) (S : Sto) : Res PV := match x with
  | .tup xs => mkTup (cutP xs lo hi) S
  | .str s => if s.length ≤ lim then .ok (.str (cutS s lo hi)) S else .bad
  | x => match lstOf x S with
    | some xs => mkLst mt (cutP xs lo hi) S
    | none => .bad
def dNoPart : EnP → Sto → Res (Option Int) := fun _ S => .ok none S
def dPart (d : EnP → Sto → Res PV) : EnP → Sto → Res (Option Int) := fun ρ S => (d ρ S).bind fun x S1 => match x with
  | .int i => .ok (some i) S1
  | _ => .bad
def dSl (mt : Bool) (d : EnP → Sto → Res PV) (lo hi : EnP → Sto → Res (Option Int)) : EnP → Sto → Res PV := fun ρ S => (d ρ S).bind fun x S1 => (lo ρ S1).bind fun l S2 => (hi ρ S2).bind fun h S3 => fSl mt x l h S3
abbrev tpart (g : Gm) (W : WX) (d : EnP → Sto → Res (Option Int)) : TO := tr g W (fun _ _ a b => a = b) d
abbrev CO (X : Cx) (T : Tb) (W : WX) (e : Option Expr) (d : EnP → Sto → Res (Option Int)) : Prop := PO X e (tpart (gm X T) W d)
theorem po_imp {X : Cx} {e : Option Expr} {t t' : TO} (h : PO X e t) (w : ∀ σ H Q, t' σ H Q → t σ H Q) : PO X e t' := ⟨fun pins s σ H Q I q => h.run pins s σ H Q I (w σ H Q q)⟩
theorem atI_rep {g : Gm} {m : Mm} {H : Hp} {xs : List PV} {vs : List V} {i : Int} {x : PV} (r : RepL g m H xs vs) (h : atI xs i = some x) : ∃ v, atI vs i = some v ∧ Rep g m H x v := by
  unfold atI at h ⊢
  rw [← r.length]
  cases e : ixN xs.length i with
  | none => rw [e] at h; cases h
  | some j =>
    rw [e] at h
    exact r.get h
section
variable {X : Cx} {T : Tb} {W : WX} {pos p2 : Pos} {a b : Expr} {lo hi : Option Expr} {da db : EnP → Sto → Res PV} {dlo dhi : EnP → Sto → Res (Option Int)}
theorem sn_ix : Snd (gm X T) (rIx X.K) fIx := by
  intro W σ m S H x y v u Q hS rx ry p
  unfold fIx at p
  split at p
  · cases rep_str rx
    cases rep_int ry
    split at p
    · rename_i c e
      split at p
      · rename_i h
        exact .inr (.inr ⟨_, _, c, rfl, rfl, lim_line h, e, p.here hS (mk_str _)⟩)
      · exact p.elim
    · exact p.elim
  · cases rep_int ry
    split at p
    · rename_i xs e
      split at p
      · rename_i z e2
        obtain ⟨a, vs, rfl, h1, h2⟩ := seqOf_rep hS rx e
        obtain ⟨w, e3, r3⟩ := atI_rep h2 e2
        rcases h1 with h1 | h1
        · exact .inl ⟨a, vs, _, w, rfl, rfl, h1, e3, p.here hS r3⟩
        · exact .inr (.inl ⟨a, vs, _, w, rfl, rfl, h1, e3, p.here hS r3⟩)
      · exact p.elim
    · exact p.elim
  · exact p.elim
theorem ce_ix (ha : CE X T W a da) (hb : CE X T W b db) (hs : PlainIx b) : CE X T W (.Subscript a b pos) (dBin fIx da db) := pe_imp (pe_ix ix_seq ha hb hs) fun σ H Q h => two_of sn_ix h
theorem co_none : CO X T W none dNoPart := po_imp po_none fun σ H Q ⟨ρ, S, m, hE, hS, p⟩ => PostR.here (a := (none : Option Int)) p hS rfl
theorem co_some (h : CE X T W a da) : CO X T W (some a) (dPart da) :=
  po_imp (po_some h) fun σ H Q ⟨ρ, S, m, hE, hS, p⟩ => tr_bind (f := fun (x : PV) (ρ : EnP) (S1 : Sto) => match x with | .int i => Res.ok (some i) S1 | _ => .bad) hE hS p fun x S1 m1 H1 w s1 hE1 hS1 hr1 p1 => by
    cases x with
    | int i => exact ⟨i, rep_int hr1, PostR.here (a := some i) p1 hS1 rfl⟩
    | _ => exact p1.elim
def rSlM (K : PySem.W.Frag) : V → Option Int → Option Int → Hp → VK → Prop := fun x lo hi H Q => (rSlL K x lo hi H Q ∨ rSlA K x lo hi H Q) ∨ rSlS x lo hi H Q
theorem sl_M : SlR X (rSlM X.K) := (sl_list.or sl_tupA).or sl_str
theorem cutP_rep {g : Gm} {m : Mm} {H : Hp} {xs : List PV} {vs : List V} (r : RepL g m H xs vs) (lo hi : Option Int) : RepL g m H (cutP xs lo hi) (cutV vs lo hi) := by
  unfold cutP cutV
  rw [← r.length]
  exact (r.drop _).take _
theorem sn_sl (mt : Bool) {g : Gm} (hb : mt = true → Bare g) {W : WX} {σ : L2.St} {m : Mm} {S : Sto} {H : Hp} {x : PV} {v : V} {l h : Option Int} {Q : VK} (hS : RelS g m S H) (rx : Rep g m H x v) (p : PostV g W σ m H Q (fSl mt x l h S)) : rSlM g.K v l h H Q := by
  have lst : PostV g W σ m H Q (match lstOf x S with | some xs => mkLst mt (cutP xs l h) S | none => .bad) → rSlM g.K v l h H Q := fun p => by
    cases e : lstOf x S with
    | none => rw [e] at p; exact p.elim
    | some xs =>
      rw [e] at p
      obtain ⟨a, vs, rfl, h1, h2⟩ := lstOf_rep hS rx e
      exact .inl (.inl ⟨a, vs, rfl, h1, (new_lst hb hS (cutP_rep h2 l h) p).2⟩)
  cases x with
  | tup xs =>
    have p : PostV g W σ m H Q (mkTup (cutP xs l h) S) := p
    obtain ⟨a, vs, rfl, h1, h2⟩ := tup_rep rx
    refine .inl (.inr ⟨a, vs, rfl, h1, fun ⟨z1, z2⟩ => ?_, fun _ => (new_tup hS (cutP_rep h2 l h) p).2⟩)
    have e : cutP xs l h = xs := by
      unfold cutP
      rw [h2.length, z1, z2, ← h2.length]
      simp
    rw [e] at p
    unfold mkTup at p
    split at p
    · exact p.here hS rx
    · exact p.elim
  | str s =>
    rw [rep_str rx]
    simp only [fSl] at p
    split at p
    · rename_i z
      exact .inr ⟨s, rfl, lim_line z, p.here hS (mk_str _)⟩
    · exact p.elim
  | _ => exact lst p
theorem ce_sl (mt : Bool) (hb : mt = true → Bare (gm X T)) (ha : CE X T W a da) (hl : CO X T W lo dlo) (hu : CO X T W hi dhi) : CE X T W (.Subscript a (.Slice lo hi none p2) pos) (dSl mt da dlo dhi) :=
  pe_imp (pe_slice sl_M ha hl hu) fun σ H Q ⟨ρ, S, m, hE, hS, p⟩ =>
    tr_bind (f := fun (x : PV) (ρ : EnP) (S1 : Sto) => (dlo ρ S1).bind fun l S2 => (dhi ρ S2).bind fun h S3 => fSl mt x l h S3) hE hS p fun x S1 m1 H1 w s1 hE1 hS1 hr1 p1 =>
    tr_bind (f := fun (l : Option Int) (ρ : EnP) (S2 : Sto) => (dhi ρ S2).bind fun h S3 => fSl mt x l h S3) hE1 hS1 p1 fun l S2 m2 H2 l' s2 hE2 hS2 hr2 p2 =>
    tr_bind (f := fun (h : Option Int) (ρ : EnP) (S3 : Sto) => fSl mt x l h S3) hE2 hS2 p2 fun h S3 m3 H3 h' s3 hE3 hS3 hr3 p3 => by
      cases hr2
      cases hr3
      exact sn_sl mt hb hS3 (hr1.step (s2.trans s3)) p3
end

/-! ### built-ins -/
def fLen : List PV → Sto → Res PV
  | [x], S => (match x with
    | .str s => if s.length ≤ lim then .ok (.int s.length) S else .bad
    | x => match seqOf x S with
      | some xs => .ok (.int xs.length) S
      | none => .bad)
  | _, _ => .bad
def fAbs : List PV → Sto → Res PV
  | [.int i], S => .ok (.int (if i < 0 then -i else i)) S
  | _, _ => .bad
def fInt : List PV → Sto → Res PV
  | [.int i], S => .ok (.int i) S
  | [.bl k], S => .ok (.int (if k then 1 else 0)) S
  | _, _ => .bad
def fIntS : List PV → Sto → Res PV
  | [.str a], S => (match PySem.intText? a with
    | some n => if a.length ≤ 640 then .ok (.int n) S else .bad
    | none => .bad)
  | _, _ => .bad
def blsOf : List PV → Option (List Bool)
  | [] => some []
  | .bl b :: r => (match blsOf r with
    | some bs => some (b :: bs)
    | none => none)
  | _ :: _ => none
def fAll : List PV → Sto → Res PV
  | [x], S => (match lstOf x S with
    | some xs => (match blsOf xs with
      | some bs => .ok (.bl (bs.all id)) S
      | none => .bad)
    | none => .bad)
  | _, _ => .bad
def fAny : List PV → Sto → Res PV
  | [x], S => (match lstOf x S with
    | some xs => (match blsOf xs with
      | some bs => .ok (.bl (bs.any id)) S
      | none => .bad)
    | none => .bad)
  | _, _ => .bad
def fTuple : List PV → Sto → Res PV
  | [.tup xs], S => .ok (.tup xs) S
  | [x], S => (match lstOf x S with
    | some xs => if xs.length ≤ lim then .ok (.tup xs) S else .bad
    | none => .bad)
  | _, _ => .bad
def fList (mt : Bool) : List PV → Sto → Res PV
  | [x], S => (match seqOf x S with
    | some xs => mkLst mt xs S
    | none => .bad)
  | _, _ => .bad
def fMax : List PV → Sto → Res PV
  | [.int i, .int j], S => .ok (.int (if j > i then j else i)) S
  | _, _ => .bad
def fMin : List PV → Sto → Res PV
  | [.int i, .int j], S => .ok (.int (if j < i then j else i)) S
  | _, _ => .bad
def tyName : PV → Sto → Option String
  | .non, _ => some "NoneType"
  | .bl _, _ => some "bool"
  | .int _, _ => some "int"
  | .str _, _ => some "str"
  | .tup _, _ => some "tuple"
  | .ct _, _ => some "tuple"
  | .nd _ _, _ => some "dict"
  | x, S => match lstT x S with
    | some _ => some "list"
    | none => none
def fIsi : List PV → Sto → Res PV
  | [x, .ty n], S => (match tyName x S with
    | some a => (match kitB a n with
      | some b => .ok (.bl b) S
      | none => .bad)
    | none => .bad)
  | _, _ => .bad
/-- repr of data -/
def fRepr : List PV → Sto → Res PV
  | [x], S => (match toDS x S with
    | some d => if d.showable = true ∧ d.depth ≤ 64 ∧ d.shown.length ≤ lim then .ok (.str d.shown) S else .bad
    | none => .bad)
  | _, _ => .bad
def fStrI : List PV → Sto → Res PV
  | [.int i], S => if i.natAbs.log2 < 1920 then .ok (.str (toString i)) S else .bad
  | _, _ => .bad
section
variable {X : Cx} {T : Tb}
theorem one_rep {g : Gm} {m : Mm} {H : Hp} {x : PV} {vs : List V} (r : RepL g m H [x] vs) : ∃ v, vs = [v] ∧ Rep g m H x v := by
  unfold RepL at r
  obtain ⟨v, ws, rfl, h, r⟩ := r
  unfold RepL at r
  subst r
  exact ⟨v, rfl, h⟩
theorem two_rep {g : Gm} {m : Mm} {H : Hp} {x y : PV} {vs : List V} (r : RepL g m H [x, y] vs) : ∃ v u, vs = [v, u] ∧ Rep g m H x v ∧ Rep g m H y u := by
  unfold RepL at r
  obtain ⟨v, ws, rfl, h, r⟩ := r
  obtain ⟨u, rfl, h2⟩ := one_rep r
  exact ⟨v, u, rfl, h, h2⟩
theorem sl_len : SndL (gm X T) (fun xs H Q => ∃ x n, xs = [x] ∧ LenV X.K x H n ∧ Q (.int n) H) fLen := by
  intro W σ m S H xs vs Q hS r p
  unfold fLen at p
  split at p
  · rename_i x
    obtain ⟨v, rfl, rx⟩ := one_rep r
    have sq : PostV (gm X T) W σ m H Q (match seqOf x S with | some xs => .ok (.int xs.length) S | none => .bad) → ∃ y n, [v] = [y] ∧ LenV X.K y H n ∧ Q (.int n) H := fun p => by
      cases e : seqOf x S with
      | none => rw [e] at p; exact p.elim
      | some xs =>
        rw [e] at p
        obtain ⟨a, ws, rfl, h1, h2⟩ := seqOf_rep hS rx e
        refine ⟨.ref a, xs.length, rfl, ?_, p.here hS (mk_int _)⟩
        rcases h1 with h1 | h1
        · exact .inl ⟨ws, h1, h2.length⟩
        · exact .inr ⟨ws, h1, h2.length⟩
    cases x with
    | str s =>
      rw [rep_str rx]
      have p : PostV (gm X T) W σ m H Q (if s.length ≤ lim then .ok (.int s.length) S else .bad) := p
      split at p
      · rename_i h
        exact ⟨_, _, rfl, ⟨lim_line h, rfl⟩, p.here hS (mk_int _)⟩
      · exact p.elim
    | _ => exact sq p
  · exact p.elim
theorem sl_abs : SndL (gm X T) (fun xs H Q => ∃ i, xs = [.int i] ∧ Q (.int (if i < 0 then -i else i)) H) fAbs := by
  intro W σ m S H xs vs Q hS r p
  unfold fAbs at p
  split at p
  · obtain ⟨v, rfl, rx⟩ := one_rep r
    cases rep_int rx
    exact ⟨_, rfl, p.here hS (mk_int _)⟩
  · exact p.elim
theorem sl_int : SndL (gm X T) (fun xs H Q => (∃ i, xs = [.int i] ∧ Q (.int i) H) ∨ ∃ k, xs = [.bl k] ∧ Q (.int (if k then 1 else 0)) H) fInt := by
  intro W σ m S H xs vs Q hS r p
  unfold fInt at p
  split at p
  · obtain ⟨v, rfl, rx⟩ := one_rep r
    cases rep_int rx
    exact .inl ⟨_, rfl, p.here hS (mk_int _)⟩
  · obtain ⟨v, rfl, rx⟩ := one_rep r
    cases rep_bl rx
    exact .inr ⟨_, rfl, p.here hS (mk_int _)⟩
  · exact p.elim
theorem bls_rep {g : Gm} {m : Mm} {H : Hp} : ∀ {xs : List PV} {vs : List V} {bs : List Bool}, RepL g m H xs vs → blsOf xs = some bs → vs = bs.map V.bl
  | [], vs, bs, r, e => by unfold RepL at r; unfold blsOf at e; cases e; rw [r]; rfl
  | x :: xs, vs, bs, r, e => by
    unfold RepL at r
    obtain ⟨v, ws, rfl, h1, h2⟩ := r
    cases x with
    | bl b =>
      simp only [blsOf] at e
      split at e
      · rename_i bs' e'
        cases e
        rw [rep_bl h1, bls_rep h2 e']
        rfl
      · cases e
    | _ => cases e
theorem sl_all : SndL (gm X T) (rAll X.K) fAll := by
  intro W σ m S H xs vs Q hS r p
  unfold fAll at p
  split at p
  · obtain ⟨v, rfl, rx⟩ := one_rep r
    split at p
    · rename_i xs e
      split at p
      · rename_i bs e2
        obtain ⟨a, ws, rfl, h1, h2⟩ := lstOf_rep hS rx e
        have z := bls_rep h2 e2
        rw [z] at h1
        exact ⟨a, bs, rfl, h1, p.here hS (mk_bl _)⟩
      · exact p.elim
    · exact p.elim
  · exact p.elim
theorem sl_any : SndL (gm X T) (rAny X.K) fAny := by
  intro W σ m S H xs vs Q hS r p
  unfold fAny at p
  split at p
  · obtain ⟨v, rfl, rx⟩ := one_rep r
    split at p
    · rename_i xs e
      split at p
      · rename_i bs e2
        obtain ⟨a, ws, rfl, h1, h2⟩ := lstOf_rep hS rx e
        have z := bls_rep h2 e2
        rw [z] at h1
        exact ⟨a, bs, rfl, h1, p.here hS (mk_bl _)⟩
      · exact p.elim
    · exact p.elim
  · exact p.elim
theorem sl_tuple : SndL (gm X T) (fun xs H Q => ∃ p ys, xs = [.ref p] ∧ ((SqL X.K H p ys ∧ ∀ l, H l = none → Q (.ref l) (upd H l (.tup ys))) ∨ (SqT X.K H p ys ∧ Q (.ref p) H))) fTuple := by
  intro W σ m S H xs vs Q hS r p
  unfold fTuple at p
  split at p
  · obtain ⟨v, rfl, rx⟩ := one_rep r
    obtain ⟨a, ws, rfl, h1, h2⟩ := tup_rep rx
    exact ⟨a, ws, rfl, .inr ⟨h1, p.here hS rx⟩⟩
  · obtain ⟨v, rfl, rx⟩ := one_rep r
    split at p
    · rename_i xs e
      split at p
      · rename_i z
        obtain ⟨a, ws, rfl, h1, h2⟩ := lstOf_rep hS rx e
        refine ⟨a, ws, rfl, .inl ⟨h1, (new_tup (W := W) (σ := σ) hS h2 ?_).2⟩⟩
        unfold mkTup
        rw [if_pos z]
        exact p
      · exact p.elim
    · exact p.elim
  · exact p.elim
theorem sl_list (mt : Bool) (hb : mt = true → Bare (gm X T)) : SndL (gm X T) (fun xs H Q => ∃ p ys, xs = [.ref p] ∧ (SqL X.K H p ys ∨ SqT X.K H p ys) ∧ ∀ l, H l = none → Q (.ref l) (upd H l (.lst ys))) (fList mt) := by
  intro W σ m S H xs vs Q hS r p
  unfold fList at p
  split at p
  · obtain ⟨v, rfl, rx⟩ := one_rep r
    split at p
    · rename_i xs e
      obtain ⟨a, ws, rfl, h1, h2⟩ := seqOf_rep hS rx e
      exact ⟨a, ws, rfl, h1, (new_lst hb hS h2 p).2⟩
    · exact p.elim
  · exact p.elim
theorem sl_max : SndL (gm X T) (fun xs H Q => ∃ i j, xs = [.int i, .int j] ∧ Q (.int (if j > i then j else i)) H) fMax := by
  intro W σ m S H xs vs Q hS r p
  unfold fMax at p
  split at p
  · obtain ⟨v, u, rfl, rx, ry⟩ := two_rep r
    cases rep_int rx
    cases rep_int ry
    exact ⟨_, _, rfl, p.here hS (mk_int _)⟩
  · exact p.elim
theorem sl_min : SndL (gm X T) (fun xs H Q => ∃ i j, xs = [.int i, .int j] ∧ Q (.int (if j < i then j else i)) H) fMin := by
  intro W σ m S H xs vs Q hS r p
  unfold fMin at p
  split at p
  · obtain ⟨v, u, rfl, rx, ry⟩ := two_rep r
    cases rep_int rx
    cases rep_int ry
    exact ⟨_, _, rfl, p.here hS (mk_int _)⟩
  · exact p.elim
theorem sqT_ty {K : PySem.W.Frag} {H : Hp} {a : Addr} {vs : List V} (h : SqT K H a vs) : TyX K H (.ref a) (.type "tuple") := by
  rcases h with (h | ⟨o, h⟩) | ⟨o, its, n, h, c, _⟩
  · exact .base (.tup h)
  · exact .fTuple h
  · exact .kTuple h c
theorem ty_rep {g : Gm} {m : Mm} {S : Sto} {H : Hp} {x : PV} {v : V} {a : String} (hS : RelS g m S H) (r : Rep g m H x v) (e : tyName x S = some a) : TyX g.K H v (.type a) := by
  have lst : (match lstT x S with | some _ => some "list" | none => none) = some a → TyX g.K H v (.type a) := fun e => by
    cases q : lstT x S with
    | none => rw [q] at e; cases e
    | some xs =>
      rw [q] at e
      cases e
      obtain ⟨b, vs, rfl, h, _⟩ := lstT_rep hS r q
      exact .base (.lst h)
  cases x with
  | non => cases e; rw [rep_non r]; exact .base .non
  | bl b => cases e; rw [rep_bl r]; exact .base (.bl b)
  | int b => cases e; rw [rep_int r]; exact .base (.int b)
  | str b => cases e; rw [rep_str r]; exact .base (.str b)
  | tup xs => cases e; obtain ⟨b, vs, rfl, h, _⟩ := tup_rep r; exact sqT_ty h
  | ct xs => cases e; obtain ⟨b, vs, rfl, h, _⟩ := ct_rep r; exact sqT_ty h
  | nd ks xs => cases e; unfold Rep at r; obtain ⟨b, vs, rfl, _, h, _⟩ := r; exact .base (.dK h)
  | _ => exact lst e
theorem sl_isi : SndL (gm X T) (rIsi X.K) fIsi := by
  intro W σ m S H xs vs Q hS r p
  unfold fIsi at p
  split at p
  · obtain ⟨v, u, rfl, rx, ry⟩ := two_rep r
    cases rep_ty ry
    split at p
    · rename_i a e
      split at p
      · rename_i b e2
        exact ⟨v, _, _, _, b, rfl, .ty _, ty_rep hS rx e, kit_ty e2, p.here hS (mk_bl _)⟩
      · exact p.elim
    · exact p.elim
  · exact p.elim
theorem sl_strI : SndL (gm X T) (fun xs H Q => ∃ i, xs = [.int i] ∧ i.natAbs.log2 < 1920 ∧ Q (.str (toString i)) H) fStrI := by
  intro W σ m S H xs vs Q hS r p
  unfold fStrI at p
  split at p
  · obtain ⟨v, rfl, rx⟩ := one_rep r
    cases rep_int rx
    split at p
    · rename_i h
      exact ⟨_, rfl, h, p.here hS (mk_str _)⟩
    · exact p.elim
  · exact p.elim
/-- repr of data, by values: no repr is under way -/
def rRepr (K : PySem.W.Frag) : List V → Hp → VK → Prop := fun xs H Q => ∃ x d, xs = [x] ∧ Dp K H x d ∧ d.showable = true ∧ d.hasDict = false ∧ d.depth ≤ 64 ∧ d.shown.length ≤ sizeLine ∧ Q (.str d.shown) H
theorem call_reprD (hg : X.A.guards = some []) (hu : X.A.units + 80 < cLine) : CallR X (.builtin "repr") (rRepr X.K) := by
  intro pins s σ H xs us Q I r h
  obtain ⟨x, d, rfl, hd, sh, hz, dp, ln, q⟩ := h
  obtain ⟨u, rfl, rx⟩ := vals1 r
  obtain ⟨as, rd⟩ := Dp.reads I d x u hd rx
  have big : ∀ a, u = Value.ref a → wpAny (model X.prog X.w) X.A (call (.builtin "repr") [u]) (EP X pins σ Q) X.xe s := fun a e => by
    subst e
    exact repr_of_reads' rd sh (PyData.noDict_hsm hz) hg (by omega) (fun _ _ e => e) (fun h' t tk hk => ⟨.str d.shown, H, I.kept hk, ⟨_, rfl⟩, q⟩) ln
  cases hd with
  | non =>
    cases rx
    refine PySem.P.repr_of_none ⟨.str (PyData.none).shown, H, I.tok _, ⟨s.toks, ?_⟩, q⟩
    simp only [PyData.shown]
  | bl b =>
    cases rx
    refine PySem.P.repr_of_bool ⟨.str (PyData.bool b).shown, H, I.tok _, ⟨s.toks, ?_⟩, q⟩
    simp only [PyData.shown] <;> (cases b <;> rfl)
  | int i =>
    obtain ⟨t, rfl⟩ := rx
    refine PySem.P.repr_of_int (by simpa only [PyData.showable, decide_eq_true_eq] using sh) ⟨.str (PyData.int i).shown, H, I.tok _, ⟨s.toks, ?_⟩, q⟩
    simp only [PyData.shown]
  | str y =>
    obtain ⟨t, rfl⟩ := rx
    refine PySem.P.repr_of_str ⟨.str (PyData.str y).shown, H, I.tok _, ⟨s.toks, ?_⟩, q⟩ (by simpa only [PyData.shown] using ln)
    simp only [PyData.shown]
  | lst h1 h2 => exact big _ rx
  | tup h1 h2 => exact big _ rx
mutual
theorem toD_noDict : ∀ (x : PV) (d : PyData), toD x = some d → d.hasDict = false
  | .non, d, e => by unfold toD at e; cases e; simp only [PyData.hasDict]
  | .bl b, d, e => by unfold toD at e; cases e; simp only [PyData.hasDict]
  | .int b, d, e => by unfold toD at e; cases e; simp only [PyData.hasDict]
  | .str b, d, e => by unfold toD at e; cases e; simp only [PyData.hasDict]
  | .tup xs, d, e => by
    unfold toD at e
    cases q : toDL xs with
    | none => rw [q] at e; cases e
    | some ds => rw [q] at e; cases e; simp only [PyData.hasDict]; exact toDL_noDict xs ds q
  | .ct xs, d, e => by
    unfold toD at e
    cases q : toDL xs with
    | none => rw [q] at e; cases e
    | some ds => rw [q] at e; cases e; simp only [PyData.hasDict]; exact toDL_noDict xs ds q
  | .nl xs, d, e => by
    unfold toD at e
    cases q : toDL xs with
    | none => rw [q] at e; cases e
    | some ds => rw [q] at e; cases e; simp only [PyData.hasDict]; exact toDL_noDict xs ds q
  | .fl xs, d, e => by
    unfold toD at e
    cases q : toDL xs with
    | none => rw [q] at e; cases e
    | some ds => rw [q] at e; cases e; simp only [PyData.hasDict]; exact toDL_noDict xs ds q
  | .nd _ _, _, e => by unfold toD at e; cases e
  | .ref _, _, e => by unfold toD at e; cases e
  | .ty _, _, e => by unfold toD at e; cases e
  | .glb _, _, e => by unfold toD at e; cases e
  | .err, _, e => by unfold toD at e; cases e
  | .lam, _, e => by unfold toD at e; cases e
theorem toDL_noDict : ∀ (xs : List PV) (ds : List PyData), toDL xs = some ds → PyData.hasDictAll ds = false
  | [], ds, e => by unfold toDL at e; cases e; simp only [PyData.hasDictAll]
  | x :: xs, ds, e => by
    unfold toDL at e
    cases q1 : toD x with
    | none => rw [q1] at e; cases e
    | some d =>
      cases q2 : toDL xs with
      | none => rw [q1, q2] at e; cases e
      | some es => rw [q1, q2] at e; cases e; simp only [PyData.hasDictAll, toD_noDict x d q1, toDL_noDict xs es q2, Bool.or_self]
end
theorem toDS_noDict {x : PV} {S : Sto} {d : PyData} (e : toDS x S = some d) : d.hasDict = false := by
  cases x with
  | ref n =>
    simp only [toDS] at e
    cases q : S[n]? with
    | none => rw [q] at e; cases e
    | some o =>
      cases o with
      | lst xs =>
        rw [q] at e
        have e : (toDL xs).map PyData.list = some d := e
        cases q2 : toDL xs with
        | none => rw [q2] at e; cases e
        | some ds => rw [q2] at e; cases e; simp only [PyData.hasDict]; exact toDL_noDict xs ds q2
      | dT ks => rw [q] at e; cases e
      | fz ks => rw [q] at e; cases e
  | _ => exact toD_noDict _ d e
theorem sl_repr : SndL (gm X T) (rRepr X.K) fRepr := by
  intro W σ m S H xs vs Q hS r p
  unfold fRepr at p
  split at p
  · obtain ⟨v, rfl, rx⟩ := one_rep r
    split at p
    · rename_i d e
      split at p
      · rename_i h
        exact ⟨v, d, rfl, dpS_of hS rx e, h.1, toDS_noDict e, h.2.1, lim_line h.2.2, p.here hS (mk_str _)⟩
      · exact p.elim
    · exact p.elim
  · exact p.elim
/-- x in a list of data -/
def fInD (neg : Bool) (x y : PV) (S : Sto) : Res PV := match toDS x S, toDS y S with
  | some d, some (.list ds) => if SeqAt.shaped d = true ∧ SeqAt.shaped (.list ds) = true then .ok (.bl (if neg = true then !(ds.any fun z => PyData.eqv z d) else ds.any fun z => PyData.eqv z d)) S else .bad
  | _, _ => .bad
theorem sn_inD : Snd (gm X T) (rInD X.K) (fInD false) := by
  intro W σ m S H x y v u Q hS rx ry p
  unfold fInD at p
  split at p
  · rename_i d ds h1 h2
    split at p
    · rename_i h
      exact ⟨d, ds, dpS_of hS rx h1, dpS_of hS ry h2, h.1, h.2, p.here hS (mk_bl _)⟩
    · exact p.elim
  · exact p.elim
theorem sn_notInD : Snd (gm X T) (rNotInD X.K) (fInD true) := by
  intro W σ m S H x y v u Q hS rx ry p
  unfold fInD at p
  split at p
  · rename_i d ds h1 h2
    split at p
    · rename_i h
      exact ⟨d, ds, dpS_of hS rx h1, dpS_of hS ry h2, h.1, h.2, p.here hS (mk_bl _)⟩
    · exact p.elim
  · exact p.elim
end
/-! ### xs.append(e) -/
def fApp (n : Nat) (y : PV) (S : Sto) : Res PV := match S[n]? with
  | some (SO.lst xs) => if xs.length < lim then .ok .non (S.set n (SO.lst (xs ++ [y]))) else .bad
  | _ => .bad
def dApp (d : EnP → Sto → Res PV) (dl : EnP → Sto → Res (List PV)) : EnP → Sto → Res PV := fun ρ S => (d ρ S).bind fun x S1 => match x with
  | .ref n => (match S1[n]? with
    | some (SO.lst _) => (dl ρ S1).bind fun ys S2 => (match ys with
      | [y] => fApp n y S2
      | _ => .bad)
    | _ => .bad)
  | _ => .bad
section
variable {X : Cx} {T : Tb} {W : WX} {o e : Expr} {es : List Expr} {d : EnP → Sto → Res PV} {dl : EnP → Sto → Res (List PV)} {apos cpos : Pos}
theorem ref_rep {g : Gm} {m : Mm} {S : Sto} {H : Hp} {n : Nat} {v : V} {xs : List PV} (hS : RelS g m S H) (r : Rep g m H (.ref n) v) (e : S[n]? = some (SO.lst xs)) : ∃ a vs, m.ix[n]? = some a ∧ v = .ref a ∧ H a = some (HO.lst vs) ∧ RepL g m H xs vs := by
  obtain ⟨a, u, f1, f2, vs, rfl, f3⟩ := hS.at_ n _ e
  unfold Rep at r
  obtain ⟨b, e1, e2⟩ := r
  rw [f1] at e1; cases e1
  exact ⟨a, vs, f1, e2, f2, RepL.up _ _ f3⟩
theorem ref_any {g : Gm} {m : Mm} {S : Sto} {H : Hp} {n : Nat} {v : V} {xs : List PV} (hS : RelS g m S H) (r : Rep g m H (.ref n) v) (e : S[n]? = some (SO.lst xs)) : ∃ a vs, m.ix[n]? = some a ∧ v = .ref a ∧ H a = some (HO.lst vs) ∧ RepL g m H xs vs := ref_rep hS r e
theorem ce_app (hb : Bare (gm X T)) (ho : CE X T W o d) (ha : CA X T W (e :: es) dl)
    (hbase : attributeBase o "append" X.env (eval o X.env) = eval o X.env := by rfl)
    (hfew : ((backTo cpos (starEach (e :: es) X.env)).all (fun x => !x.1) && (backToKw cpos (keywordEach [] X.env)).all (fun x => x.1.isSome)
      && decide ((e :: es).length + ([] : List Keyword).length + (if ([] : List Keyword).isEmpty then 0 else 1) < 30)) = true := by rfl)
    (hline : (apos.endLine == cpos.line) = true := by rfl) (hs : starEach (e :: es) X.env = (false, eval e X.env) :: starEach es X.env := by rfl) (hplain : (backTo cpos (starEach es X.env)).any (·.1) = false := by rfl) :
    CE X T W (.Call (.Attribute o "append" apos) (e :: es) [] cpos) (dApp d dl) :=
  pe_imp (pe_bm PySem.F.plainAttrs_list PySem.F.slot_list_append PySem.F.type_list_append mt_append ho ha hbase hfew hline hs hplain) fun σ H Q ⟨ρ, S, m, hE, hS, p⟩ =>
    tr_bind (f := fun (x : PV) (ρ : EnP) (S1 : Sto) => match x with | .ref n => (match S1[n]? with | some (SO.lst _) => (dl ρ S1).bind fun ys S2 => (match ys with | [y] => fApp n y S2 | _ => .bad) | _ => .bad) | _ => .bad) hE hS p fun x S1 m1 H1 w s1 hE1 hS1 hr1 p1 => by
      cases x with
      | ref n =>
        have p1 : PostV (gm X T) W σ m1 H1 Q (match S1[n]? with | some (SO.lst _) => (dl ρ S1).bind fun ys S2 => (match ys with | [y] => fApp n y S2 | _ => .bad) | _ => .bad) := p1
        split at p1
        case h_2 => exact p1.elim
        rename_i xs0 e0
        obtain ⟨a, vs0, e1, rfl, f2, _⟩ := ref_any hS1 hr1 e0
        refine ⟨.inl ⟨rfl, vs0, .inl (.inl f2)⟩, tr_bind (f := fun (ys : List PV) (ρ : EnP) (S2 : Sto) => match ys with | [y] => fApp n y S2 | _ => .bad) hE1 hS1 p1 fun ys S2 m2 H2 ws s2 hE2 hS2 hr2 p2 => ?_⟩
        split at p2
        · rename_i y
          obtain ⟨u, rfl, ru⟩ := one_rep hr2
          unfold fApp at p2
          split at p2
          · rename_i xs e3
            split at p2
            · rename_i hl
              obtain ⟨a', vs, g1, g2, g3, g4⟩ := ref_rep hS2 (hr1.step s2) e3
              cases g2
              have hn2 : n < S2.length := (List.getElem?_eq_some_iff.mp e3).1
              refine ⟨a, vs, u, rfl, rfl, g3, ?_, ?_⟩
              · rw [sizeLine_eq, ← g4.length]; exact hl
              · exact p2 m2 _ _ (step_write (List.mem_of_getElem? g1) g3) (hS2.write hb g1 hn2 g3 (g4.append (RepL.cons ru RepL.nil))) mk_non
            · exact p2.elim
          · exact p2.elim
        · exact p2.elim
      | _ => exact p1.elim
end
end Mi
end
section
set_option Elab.async false
set_option linter.all false
set_option maxRecDepth 100000
set_option maxHeartbeats 2000000
namespace Mi
open PySem PySem.Spec PyProof.Rows L2

/-! ### statements -/
/-- an expression's answer within a block -/
def sE {α : Type} (r : Res α) (ρ : EnP) (k : α → Sto → SR) : SR := match r with
  | .ok a S => k a S
  | .exc c fs S => .exc c fs ρ S
  | .bad => .bad
@[simp] theorem sE_ok {α : Type} (a : α) (S : Sto) (ρ : EnP) (k : α → Sto → SR) : sE (.ok a S) ρ k = k a S := rfl
@[simp] theorem sE_exc {α : Type} (c : Str) (fs : List (Str × PV)) (S : Sto) (ρ : EnP) (k : α → Sto → SR) : sE (.exc c fs S) ρ k = .exc c fs ρ S := rfl
@[simp] theorem sE_bad {α : Type} (ρ : EnP) (k : α → Sto → SR) : sE .bad ρ k = .bad := rfl
theorem ts_bind {α β : Type} {g : Gm} {W : WX} {R : Mm → Hp → α → β → Prop} {d : EnP → Sto → Res α} {k : α → Sto → SR} {D : Ends} {σ : L2.St} {H : Hp} {ρ : EnP} {S : Sto} {m : Mm} (hE : RelE g m H ρ σ) (hS : RelS g m S H) (p : PostS g W D m H (sE (d ρ S) ρ k)) {Q1 : β → Hp → Prop}
    (h : ∀ a S1 m1 H1 w, Step m H m1 H1 → RelE g m1 H1 ρ σ → RelS g m1 S1 H1 → R m1 H1 a w → PostS g W D m1 H1 (k a S1) → Q1 w H1) : tr g W R d σ H Q1 := by
  refine ⟨ρ, S, m, hE, hS, ?_⟩
  cases hd : d ρ S with
  | ok a S1 =>
    rw [hd] at p
    exact fun m' H' w s h1 h2 => h a S1 m' H' w s (hE.step s) h1 h2 (PostS.step s p)
  | exc c fs S1 =>
    rw [hd] at p
    exact fun m' H' cls dd s h1 h2 => p m' H' σ cls dd s h1 (hE.step s) h2
  | bad =>
    rw [hd] at p
    exact p.elim
theorem PostS.nx_here {g : Gm} {W : WX} {D : Ends} {m : Mm} {H : Hp} {ρ : EnP} {S : Sto} {σ : L2.St} (p : PostS g W D m H (.nx ρ S)) (hS : RelS g m S H) (hE : RelE g m H ρ σ) : D.nx σ H := p m H σ (Step.refl m H) hS hE
def dExpr (d : EnP → Sto → Res PV) : EnP → Sto → SR := fun ρ S => sE (d ρ S) ρ fun _ S1 => .nx ρ S1
def dRet (d : EnP → Sto → Res PV) : EnP → Sto → SR := fun ρ S => sE (d ρ S) ρ fun v S1 => .rt v S1
def dRetN : EnP → Sto → SR := fun _ S => .rt .non S
def dPass : EnP → Sto → SR := fun ρ S => .nx ρ S
def dBreak : EnP → Sto → SR := fun ρ S => .bk ρ S
def dCont : EnP → Sto → SR := fun ρ S => .ct ρ S
def dSeq (d1 d2 : EnP → Sto → SR) : EnP → Sto → SR := fun ρ S => match d1 ρ S with
  | .nx ρ' S' => d2 ρ' S'
  | r => r
def dIfS (dc : EnP → Sto → Res Bool) (d1 d2 : EnP → Sto → SR) : EnP → Sto → SR := fun ρ S => sE (dc ρ S) ρ fun b S1 => if b = true then d1 ρ S1 else d2 ρ S1
def dSet (i : Nat) (d : EnP → Sto → Res PV) : EnP → Sto → SR := fun ρ S => sE (d ρ S) ρ fun v S1 => .nx (ρ.set i (some v)) S1
def dPar (i j : Nat) (dl : EnP → Sto → Res (List PV)) : EnP → Sto → SR := fun ρ S => sE (dl ρ S) ρ fun vs S1 => match vs with
  | [v, w] => .nx ((ρ.set i (some v)).set j (some w)) S1
  | _ => .bad
def dPar3 (i j l : Nat) (dl : EnP → Sto → Res (List PV)) : EnP → Sto → SR := fun ρ S => sE (dl ρ S) ρ fun vs S1 => match vs with
  | [u, v, w] => .nx (((ρ.set i (some u)).set j (some v)).set l (some w)) S1
  | _ => .bad
/-- a target -/
abbrev DG := PV → EnP → Sto → Res EnP
def tgt (g : Gm) (W : WX) (d : DG) : TG := fun v σ H Q => ∃ x ρ S m, Rep g m H x v ∧ RelE g m H ρ σ ∧ RelS g m S H ∧ PostR g W σ m H (fun m' H' ρ' σ' => RelE g m' H' ρ' σ') Q (d x ρ S)
abbrev CG (X : Cx) (T : Tb) (W : WX) (tg : Expr) (d : DG) : Prop := PG X tg (tgt (gm X T) W d)
abbrev DGs := List PV → EnP → Sto → Res EnP
def tgts (g : Gm) (W : WX) (d : DGs) : TGs := fun vs σ H Q => ∃ xs ρ S m, RepL g m H xs vs ∧ RelE g m H ρ σ ∧ RelS g m S H ∧ PostR g W σ m H (fun m' H' ρ' σ' => RelE g m' H' ρ' σ') Q (d xs ρ S)
abbrev CGs (X : Cx) (T : Tb) (W : WX) (tg : List Expr) (d : DGs) : Prop := PGs X tg (tgts (gm X T) W d)
def gNm (i : Nat) : DG := fun x ρ S => .ok (ρ.set i (some x)) S
def gsNil : DGs := fun xs ρ S => match xs with
  | [] => .ok ρ S
  | _ => .bad
def gsCons (d : DG) (ds : DGs) : DGs := fun xs ρ S => match xs with
  | x :: r => (d x ρ S).bind fun ρ' S' => ds r ρ' S'
  | [] => .bad
def gTp (n : Nat) (ds : DGs) : DG := fun x ρ S => match x with
  | .tup xs => if xs.length = n then ds xs ρ S else .bad
  | _ => .bad
/-- o[i] = x -/
def setIx (x : PV) (ρ : EnP) (o i : PV) (S2 : Sto) : Res EnP := match o, i with
  | .ref n, .int k => (match S2[n]? with
    | some (SO.lst xs) => (match ixN xs.length k with
      | some j => .ok ρ (S2.set n (SO.lst (xs.set j x)))
      | none => .bad)
    | _ => .bad)
  | _, _ => .bad
def gIx (do_ di : EnP → Sto → Res PV) : DG := fun x ρ S => (do_ ρ S).bind fun o S1 => (di ρ S1).bind fun i S2 => setIx x ρ o i S2
def dAsg (d : EnP → Sto → Res PV) (dg : DG) : EnP → Sto → SR := fun ρ S => sE (d ρ S) ρ fun v S1 => sE (dg v ρ S1) ρ fun ρ' S2 => .nx ρ' S2
def dAug (i : Nat) (f : PV → PV → Sto → Res PV) (d : EnP → Sto → Res PV) : EnP → Sto → SR := fun ρ S => match ρ[i]? with
  | some (some x) => sE (d ρ S) ρ fun y S1 => sE (f x y S1) ρ fun z S2 => .nx (ρ.set i (some z)) S2
  | _ => .bad
theorem pg_imp {X : Cx} {e : Expr} {t t' : TG} (h : PG X e t) (w : ∀ v σ H Q, t' v σ H Q → t v σ H Q) : PG X e t' := ⟨fun pins s σ H v u Q I r q => h.run pins s σ H v u Q I r (w v σ H Q q)⟩
theorem pgs_imp {X : Cx} {e : List Expr} {t t' : TGs} (h : PGs X e t) (w : ∀ v σ H Q, t' v σ H Q → t v σ H Q) : PGs X e t' := ⟨fun pins s σ H v u Q I r q => h.run pins s σ H v u Q I r (w v σ H Q q)⟩
section
variable {X : Cx} {T : Tb} {W : WX} {pos : Pos} {e : Expr} {d : EnP → Sto → Res PV} {st : Stmt} {rest : List Stmt} {d1 d2 : EnP → Sto → SR}
theorem css_nil : CSs X T W [] dPass := pss_imp pss_nil fun D σ H ⟨ρ, S, m, hE, hS, p⟩ => p.nx_here hS hE
theorem css_cons (h1 : CS X T W st d1) (h2 : CSs X T W rest d2) : CSs X T W (st :: rest) (dSeq d1 d2) :=
  pss_imp (pss_cons h1 h2) fun D σ H ⟨ρ, S, m, hE, hS, p⟩ => by
    refine ⟨ρ, S, m, hE, hS, ?_⟩
    unfold dSeq at p
    cases hd : d1 ρ S with
    | nx ρ' S' =>
      rw [hd] at p
      exact fun m' H' σ' s h3 h4 => ⟨ρ', S', m', h4, h3, PostS.step s p⟩
    | rt v S' => rw [hd] at p; exact p
    | bk ρ' S' => rw [hd] at p; exact p
    | ct ρ' S' => rw [hd] at p; exact p
    | exc c fs ρ' S' => rw [hd] at p; exact p
    | bad => rw [hd] at p; exact p
theorem css_one (h1 : CS X T W st d1) : CSs X T W [st] d1 := pss_one h1
theorem cs_pass : CS X T W (.Pass pos) dPass := ps_imp ps_pass fun D σ H ⟨ρ, S, m, hE, hS, p⟩ => p.nx_here hS hE
theorem cs_break : CS X T W (.Break pos) dBreak := ps_imp ps_break fun D σ H ⟨ρ, S, m, hE, hS, p⟩ => p m H σ (Step.refl m H) hS hE
theorem cs_cont : CS X T W (.Continue pos) dCont := ps_imp ps_continue fun D σ H ⟨ρ, S, m, hE, hS, p⟩ => p m H σ (Step.refl m H) hS hE
theorem cs_expr (h : CE X T W e d) (hs : swapsWith e none pos.line X.env = pure false := by rfl) : CS X T W (.Expr e pos) (dExpr d) :=
  ps_imp (ps_expr h hs) fun D σ H ⟨ρ, S, m, hE, hS, p⟩ => ts_bind (k := fun _ S1 => .nx ρ S1) hE hS p fun a S1 m1 H1 w s1 hE1 hS1 hr p1 => p1.nx_here hS1 hE1
theorem cs_ret (h : CE X T W e d) : CS X T W (.Return (some e) pos) (dRet d) :=
  ps_imp (ps_ret h) fun D σ H ⟨ρ, S, m, hE, hS, p⟩ => ts_bind (k := fun v S1 => .rt v S1) hE hS p fun a S1 m1 H1 w s1 hE1 hS1 hr p1 => p1 m1 H1 w (Step.refl _ _) hS1 hr
theorem cs_retN : CS X T W (.Return none pos) dRetN := ps_imp ps_retN fun D σ H ⟨ρ, S, m, hE, hS, p⟩ => p m H .non (Step.refl _ _) hS mk_non
theorem cs_if {c : Expr} {dc : EnP → Sto → Res Bool} {a b : List Stmt} (hc : CT X T W c dc) (ha : CSs X T W a d1) (hb : CSs X T W b d2) : CS X T W (.If c a b pos) (dIfS dc d1 d2) :=
  ps_imp (ps_if hc ha hb) fun D σ H ⟨ρ, S, m, hE, hS, p⟩ => ts_bind (k := fun b S1 => if b = true then d1 ρ S1 else d2 ρ S1) hE hS p fun b S1 m1 H1 w s1 hE1 hS1 hr p1 => by
    cases hr
    cases b with
    | true => rw [if_pos rfl] at p1 ⊢; exact ⟨ρ, S1, m1, hE1, hS1, p1⟩
    | false => rw [if_neg Bool.false_ne_true] at p1 ⊢; exact ⟨ρ, S1, m1, hE1, hS1, p1⟩
theorem cs_set {i : Nat} {x : Str} {pos' : Pos} (hN : X.N.Nodup) (hi : X.N[i]? = some x) (hx : Loc X.env.scope x) (he : CE X T W e d) (hs : swapsWith e (some (.Name x pos')) pos.line X.env = pure false := by rfl)
    (hf : X.fn x = true ∨ X.env.scope.names.lookup x = some .local := by first | exact .inl rfl | exact .inr rfl | assumption) : CS X T W (.Assign [.Name x pos'] e pos) (dSet i d) :=
  ps_imp (ps_set hN hi hx he hs hf) fun D σ H ⟨ρ, S, m, hE, hS, p⟩ => ts_bind (k := fun v S1 => .nx (ρ.set i (some v)) S1) hE hS p fun a S1 m1 H1 w s1 hE1 hS1 hr p1 => p1.nx_here hS1 (hE1.set i hr)
theorem cs_par {i j : Nat} {x y : Str} {a b : Expr} {dl : EnP → Sto → Res (List PV)} {px py pt : Pos} {kt k2 pt2} (hc : X.calm = true) (hN : X.N.Nodup) (hi : X.N[i]? = some x) (hj : X.N[j]? = some y) (hij : i ≠ j)
    (hx : X.env.scope.names.lookup x = some .local) (hy : X.env.scope.names.lookup y = some .local) (ha : CA X T W [a, b] dl)
    (hw : swappedStores [.Tuple [.Name x px, .Name y py] kt pt] (.Tuple [a, b] k2 pt2) X.env = pure (some [x, y]))
    (hs : swapsWithSole [.Tuple [.Name x px, .Name y py] kt pt] (.Tuple [a, b] k2 pt2) pos.line X.env = pure false := by rfl) :
    CS X T W (.Assign [.Tuple [.Name x px, .Name y py] kt pt] (.Tuple [a, b] k2 pt2) pos) (dPar i j dl) :=
  ps_imp (ps_par hc hN hi hj hij hx hy ha hw hs) fun D σ H ⟨ρ, S, m, hE, hS, p⟩ => ts_bind (k := fun vs S1 => match vs with | [v, w] => .nx ((ρ.set i (some v)).set j (some w)) S1 | _ => .bad) hE hS p fun vs S1 m1 H1 ws s1 hE1 hS1 hr p1 => by
    split at p1
    · obtain ⟨v, u, rfl, r1, r2⟩ := two_rep hr
      exact ⟨v, u, rfl, p1.nx_here hS1 ((hE1.set i r1).set j r2)⟩
    · exact p1.elim
theorem three_rep {g : Gm} {m : Mm} {H : Hp} {x y z : PV} {vs : List V} (r : RepL g m H [x, y, z] vs) : ∃ v u w, vs = [v, u, w] ∧ Rep g m H x v ∧ Rep g m H y u ∧ Rep g m H z w := by
  unfold RepL at r
  obtain ⟨v, ws, rfl, h, r⟩ := r
  obtain ⟨u, w, rfl, h2, h3⟩ := two_rep r
  exact ⟨v, u, w, rfl, h, h2, h3⟩
theorem cs_par3 {i j l : Nat} {x y z : Str} {a b c : Expr} {dl : EnP → Sto → Res (List PV)} {px py pz pt : Pos} {kt k2 pt2} (hc : X.calm = true) (hN : X.N.Nodup) (hi : X.N[i]? = some x) (hj : X.N[j]? = some y) (hl : X.N[l]? = some z) (hij : i ≠ j) (hil : i ≠ l) (hjl : j ≠ l)
    (hx : X.env.scope.names.lookup x = some .local) (hy : X.env.scope.names.lookup y = some .local) (hz : X.env.scope.names.lookup z = some .local) (ha : CA X T W [a, b, c] dl)
    (hw : swappedStores [.Tuple [.Name x px, .Name y py, .Name z pz] kt pt] (.Tuple [a, b, c] k2 pt2) X.env = pure (some [x, y, z]))
    (hs : swapsWithSole [.Tuple [.Name x px, .Name y py, .Name z pz] kt pt] (.Tuple [a, b, c] k2 pt2) pos.line X.env = pure false := by rfl) :
    CS X T W (.Assign [.Tuple [.Name x px, .Name y py, .Name z pz] kt pt] (.Tuple [a, b, c] k2 pt2) pos) (dPar3 i j l dl) :=
  ps_imp (ps_par3 hc hN hi hj hl hij hil hjl hx hy hz ha hw hs) fun D σ H ⟨ρ, S, m, hE, hS, p⟩ => ts_bind (k := fun vs S1 => match vs with | [u, v, w] => .nx (((ρ.set i (some u)).set j (some v)).set l (some w)) S1 | _ => .bad) hE hS p fun vs S1 m1 H1 ws s1 hE1 hS1 hr p1 => by
    split at p1
    · obtain ⟨v, u, w, rfl, r1, r2, r3⟩ := three_rep hr
      exact ⟨v, u, w, rfl, p1.nx_here hS1 (((hE1.set i r1).set j r2).set l r3)⟩
    · exact p1.elim
/-! targets -/
theorem cg_name {i : Nat} {x : Str} (hN : X.N.Nodup) (hi : X.N[i]? = some x) (hx : Loc X.env.scope x) (hf : X.fn x = true ∨ X.env.scope.names.lookup x = some .local := by first | exact .inl rfl | exact .inr rfl | assumption) : CG X T W (.Name x pos) (gNm i) :=
  pg_imp (pg_name hN hi hx hf) fun v σ H Q ⟨x, ρ, S, m, hr, hE, hS, p⟩ => PostR.here (a := ρ.set i (some x)) p hS (hE.set i hr)
theorem cgs_nil : CGs X T W [] gsNil := pgs_imp pgs_nil fun vs σ H Q ⟨xs, ρ, S, m, hr, hE, hS, p⟩ => by
  unfold gsNil at p
  split at p
  · unfold RepL at hr
    exact ⟨hr, PostR.here (a := ρ) p hS hE⟩
  · exact p.elim
/-- an exception that a target raises is told at the slots ahead of it -/
def Flat (W : WX) : Prop := ∀ c d σ σ' H, W c d σ H → W c d σ' H
theorem cgs_cons {e : Expr} {es : List Expr} {dg : DG} {ds : DGs} (fw : Flat W) (h1 : CG X T W e dg) (h2 : CGs X T W es ds) (hs : (assignEach (e :: es) X.env).map (·.2) = assign e X.env :: (assignEach es X.env).map (·.2) := by rfl) : CGs X T W (e :: es) (gsCons dg ds) :=
  pgs_imp (pgs_cons h1 h2 hs) fun vs σ H Q ⟨xs, ρ, S, m, hr, hE, hS, p⟩ => by
    unfold gsCons at p
    split at p
    · rename_i x r
      unfold RepL at hr
      obtain ⟨v, ws, rfl, r1, r2⟩ := hr
      refine ⟨v, ws, rfl, x, ρ, S, m, r1, hE, hS, ?_⟩
      cases hd : dg x ρ S with
      | ok ρ' S' =>
        rw [hd] at p
        refine fun m' H' σ' s h3 h4 => ⟨r, ρ', S', m', r2.step s, h4, h3, ?_⟩
        have p2 : PostR (gm X T) W σ m H (fun m' H' ρ' σ' => RelE (gm X T) m' H' ρ' σ') Q (ds r ρ' S') := p
        have p3 := PostR.step s p2
        cases hq : ds r ρ' S' with
        | ok a S2 => rw [hq] at p3; exact p3
        | exc c fs S2 => rw [hq] at p3; exact fun m2 H2 cls dd s2 h5 h6 => fw _ _ σ σ' _ (p3 m2 H2 cls dd s2 h5 h6)
        | bad => rw [hq] at p3; exact p3
      | exc c fs S' => rw [hd] at p; exact p
      | bad => rw [hd] at p; exact p.elim
    · exact p.elim
theorem cg_tup {es : List Expr} {k : Nat} {ds : DGs} {n : Nat} (hc : X.calm = true) (h : CGs X T W es ds) (hn : (assignEach es X.env).length = n := by rfl) (hst : (assignEach es X.env).findIdx? (·.1) = none := by rfl) : CG X T W (.Tuple es k pos) (gTp n ds) :=
  pg_imp (pg_tup hc h hn hst) fun v σ H Q ⟨x, ρ, S, m, hr, hE, hS, p⟩ => by
    cases x with
    | tup xs =>
      simp only [gTp] at p
      split at p
      · rename_i hl
        obtain ⟨a, vs, rfl, h1, h2⟩ := tup_rep hr
        exact ⟨a, vs, rfl, h1, by rw [← h2.length]; exact hl, xs, ρ, S, m, h2, hE, hS, p⟩
      · exact p.elim
    | _ => exact p.elim
theorem cg_ix {o i : Expr} {do_ di : EnP → Sto → Res PV} (hb : Bare (gm X T)) (ho : CE X T W o do_) (hi : CE X T W i di)
    (ha : ∀ v, assign (.Subscript o i pos) X.env v = (do
      let ov ← holding [v] (eval o X.env)
      let iv ← holding [v, ov] (eval i X.env)
      standAt pos
      holding [v, ov, iv] (setItem ov iv v)
      release [v, ov, iv] []) := by intro _; rfl) : CG X T W (.Subscript o i pos) (gIx do_ di) :=
  pg_imp (pg_sub ho hi set_list ha) fun v σ H Q ⟨x, ρ, S, m, hr, hE, hS, p⟩ =>
    tr_bind (R' := fun m' H' ρ' σ' => RelE (gm X T) m' H' ρ' σ') (f := fun (o : PV) (_ : EnP) (S1 : Sto) => (di ρ S1).bind fun i S2 => setIx x ρ o i S2) hE hS p fun o S1 m1 H1 w s1 hE1 hS1 hr1 p1 =>
    tr_bind (R' := fun m' H' ρ' σ' => RelE (gm X T) m' H' ρ' σ') (f := fun (i : PV) (_ : EnP) (S2 : Sto) => setIx x ρ o i S2) hE1 hS1 p1 fun i S2 m2 H2 w2 s2 hE2 hS2 hr2 p2 => by
      cases o with
      | ref n =>
        cases i with
        | int k =>
          cases rep_int hr2
          have p2 : PostR (gm X T) W σ m2 H2 (fun m' H' ρ' σ' => RelE (gm X T) m' H' ρ' σ') Q (match S2[n]? with
            | some (SO.lst xs) => (match ixN xs.length k with
              | some j => Res.ok ρ (S2.set n (SO.lst (xs.set j x)))
              | none => .bad)
            | _ => .bad) := p2
          split at p2
          · rename_i xs e
            split at p2
            · rename_i j ej
              obtain ⟨a, vs, g1, rfl, g3, g4⟩ := ref_rep hS2 (hr1.step s2) e
              have hn2 : n < S2.length := (List.getElem?_eq_some_iff.mp e).1
              refine ⟨a, vs, k, j, rfl, rfl, g3, by rw [← g4.length]; exact ej, ?_⟩
              have st := step_write (us := vs.set j v) (List.mem_of_getElem? g1) g3
              exact p2 m2 _ _ st (hS2.write hb g1 hn2 g3 (g4.set ((hr.step s1).step s2) j)) (hE2.step st)
            · exact p2.elim
          · exact p2.elim
        | _ => exact p2.elim
      | _ => exact p2.elim
theorem cs_asg {tg : Expr} {dg : DG} (he : CE X T W e d) (hg : CG X T W tg dg) (hs : swapsWithSole [tg] e pos.line X.env = pure false := by rfl) (hw : swappedStores [tg] e X.env = pure none := by rfl)
    (h1 : (assignEach [tg] X.env).map (·.2) = [assign tg X.env] := by rfl) : CS X T W (.Assign [tg] e pos) (dAsg d dg) :=
  ps_imp (ps_asg he hg hs hw h1) fun D σ H ⟨ρ, S, m, hE, hS, p⟩ => ts_bind (k := fun v S1 => sE (dg v ρ S1) ρ fun ρ' S2 => .nx ρ' S2) hE hS p fun a S1 m1 H1 w s1 hE1 hS1 hr p1 => by
    refine ⟨a, ρ, S1, m1, hr, hE1, hS1, ?_⟩
    cases hd : dg a ρ S1 with
    | ok ρ' S' => rw [hd] at p1; exact fun m' H' σ' s h3 h4 => p1 m' H' σ' s h3 h4
    | exc c fs S' => rw [hd] at p1; exact fun m' H' cls dd s h3 h4 => p1 m' H' σ cls dd s h3 (hE1.step s) h4
    | bad => rw [hd] at p1; exact p1.elim
theorem cs_aug {i : Nat} {x : Str} {op : Operator} {f : PV → PV → Sto → Res PV} {r : R2} {pos' : Pos} (hN : X.N.Nodup) (hi : X.N[i]? = some x) (hx : Loc X.env.scope x) (he : CE X T W e d) (ho : OpR X (inplaceOp op) r) (hs : Snd (gm X T) r f)
    (hf : X.fn x = true ∨ X.env.scope.names.lookup x = some .local := by first | exact .inl rfl | exact .inr rfl | assumption) : CS X T W (.AugAssign (.Name x pos') op e pos) (dAug i f d) :=
  ps_imp (ps_aug (ti := r) hN hi hx he ho hf) fun D σ H ⟨ρ, S, m, hE, hS, p⟩ => by
    unfold dAug at p
    split at p
    · rename_i v ev
      obtain ⟨w, e1, e2⟩ := hE.at_ i v ev
      refine ⟨w, e1, ts_bind (k := fun y S1 => sE (f v y S1) ρ fun z S2 => .nx (ρ.set i (some z)) S2) hE hS p fun y S1 m1 H1 u s1 hE1 hS1 hr p1 => ?_⟩
      refine hs W σ m1 S1 H1 v y w u _ hS1 (e2.step s1) hr ?_
      cases hd : f v y S1 with
      | ok z S2 => rw [hd] at p1; exact fun m' H' w' s h3 h4 => p1 m' H' _ s h3 ((hE1.step s).set i h4)
      | exc c fs S2 => rw [hd] at p1; exact fun m' H' cls dd s h3 h4 => p1 m' H' σ cls dd s h3 (hE1.step s) h4
      | bad => rw [hd] at p1; exact p1.elim
    · exact p.elim
end

/-! ### while -/
def whileP (dc : EnP → Sto → Res Bool) (db : EnP → Sto → SR) : Nat → EnP → Sto → SR
  | 0, _, _ => .bad
  | n + 1, ρ, S => sE (dc ρ S) ρ fun b S1 => if b = true then (match db ρ S1 with
      | .nx ρ' S' => whileP dc db n ρ' S'
      | .ct ρ' S' => whileP dc db n ρ' S'
      | .bk ρ' S' => .nx ρ' S'
      | r => r) else .nx ρ S1
theorem cs_while {X : Cx} {T : Tb} {W : WX} {pos : Pos} {c : Expr} {body : List Stmt} {dc : EnP → Sto → Res Bool} {db : EnP → Sto → SR} (n : Nat) (hp : PassesOwn (model X.prog X.w) X.A X.env X.xe) (hc : CT X T W c dc) (hb : CSs X T W body db) :
    CS X T W (.While c body [] pos) (whileP dc db n) :=
  ps_imp (ps_while hp hc hb) fun D σ H ⟨ρ, S, m, hE, hS, p⟩ => by
    refine ⟨fun n σ H => ∃ ρ S m, RelE (gm X T) m H ρ σ ∧ RelS (gm X T) m S H ∧ PostS (gm X T) W D m H (whileP dc db n ρ S), ⟨n, ρ, S, m, hE, hS, p⟩, ?_⟩
    rintro n σ H ⟨ρ, S, m, hE, hS, p⟩
    cases n with
    | zero => exact p.elim
    | succ n =>
      unfold whileP at p
      refine ts_bind (k := fun b S1 => if b = true then (match db ρ S1 with
        | .nx ρ' S' => whileP dc db n ρ' S'
        | .ct ρ' S' => whileP dc db n ρ' S'
        | .bk ρ' S' => .nx ρ' S'
        | r => r) else .nx ρ S1) hE hS p fun b S1 m1 H1 w s1 hE1 hS1 hr p1 => ?_
      cases hr
      cases b with
      | false =>
        rw [if_neg Bool.false_ne_true] at p1 ⊢
        exact p1.nx_here hS1 hE1
      | true =>
        rw [if_pos rfl] at p1 ⊢
        refine ⟨fun σ H => ∃ ρ S m, RelE (gm X T) m H ρ σ ∧ RelS (gm X T) m S H ∧ PostS (gm X T) W D m H (whileP dc db n ρ S), fun σ' H' h => ⟨n, Nat.lt_succ_self n, h⟩, ρ, S1, m1, hE1, hS1, ?_⟩
        cases hd : db ρ S1 with
        | nx ρ' S' => rw [hd] at p1; exact fun m' H' σ' s h3 h4 => ⟨ρ', S', m', h4, h3, PostS.step s p1⟩
        | ct ρ' S' => rw [hd] at p1; exact fun m' H' σ' s h3 h4 => ⟨ρ', S', m', h4, h3, PostS.step s p1⟩
        | bk ρ' S' => rw [hd] at p1; exact p1
        | rt v S' => rw [hd] at p1; exact p1
        | exc c fs ρ' S' => rw [hd] at p1; exact p1
        | bad => rw [hd] at p1; exact p1

/-! ### for -/
/-- an iterator that yields these items, whatever happens to the store -/
structure ItOk (g : Gm) (J : It) (items : List PV) (m₀ : Mm) (H₀ : Hp) : Prop where
  go : ∀ m H S i x, Emb m₀ H₀ m H → RelS g m S H → items[i]? = some x → J.go i H ∧ ∀ v H', J.yld i H v H' → Step m H m H' ∧ RelS g m S H' ∧ Rep g m H' x v
  stop : ∀ m H S i, Emb m₀ H₀ m H → RelS g m S H → items.length = i → J.stop i H
theorem Emb.trans {m m1 m2 : Mm} {H H1 H2 : Hp} (a : Emb m H m1 H1) (b : Emb m1 H1 m2 H2) : Emb m H m2 H2 :=
  ⟨fun n x h => b.get n x (a.get n x h), fun x o h e n => have q := a.keep x o h e n; b.keep x o q.1 q.2 n, fun x xs e => b.tup x xs (a.tup x xs e), fun x o u e => b.frz x o u (a.frz x o u e)⟩
theorem ItOk.step {g : Gm} {J : It} {items : List PV} {m m1 : Mm} {H H1 : Hp} (s : Step m H m1 H1) (k : ItOk g J items m H) : ItOk g J items m1 H1 :=
  ⟨fun m' H' S i x s' => k.go m' H' S i x (s.emb.trans s'), fun m' H' S i s' => k.stop m' H' S i (s.emb.trans s')⟩
abbrev CI (X : Cx) (T : Tb) (W : WX) (tg iter : Expr) (d : EnP → Sto → Res (List PV)) : Prop := PI X tg iter (tr (gm X T) W (fun m' H' items J => ItOk (gm X T) J items m' H') d)
theorem pi_imp {X : Cx} {tg e : Expr} {t t' : TI} (h : PI X tg e t) (w : ∀ σ H R, t' σ H R → t σ H R) : PI X tg e t' := ⟨fun pins s σ H R I q => h.run pins s σ H R I (w σ H R q)⟩
def forP (dg : DG) (db : EnP → Sto → SR) : List PV → EnP → Sto → SR
  | [], ρ, S => .nx ρ S
  | x :: xs, ρ, S => sE (dg x ρ S) ρ fun ρ1 S1 => (match db ρ1 S1 with
      | .nx ρ' S' => forP dg db xs ρ' S'
      | .ct ρ' S' => forP dg db xs ρ' S'
      | .bk ρ' S' => .nx ρ' S'
      | r => r)
def dFor (di : EnP → Sto → Res (List PV)) (dg : DG) (db : EnP → Sto → SR) : EnP → Sto → SR := fun ρ S => sE (di ρ S) ρ fun items S1 => forP dg db items ρ S1
theorem cs_for {X : Cx} {T : Tb} {W : WX} {pos : Pos} {tg iter : Expr} {body : List Stmt} {di : EnP → Sto → Res (List PV)} {dg : DG} {db : EnP → Sto → SR} (hp : PassesOwn (model X.prog X.w) X.A X.env X.xe) (hc : X.calm = true)
    (hi : CI X T W tg iter di) (hg : CG X T W tg dg) (hb : CSs X T W body db) (hs : ∀ x, foldedSetIterable iter X.env x = pure x := by intro _; rfl) : CS X T W (.For tg iter body [] pos) (dFor di dg db) :=
  ps_imp (ps_for hp hc hi hg hb hs) fun D σ H ⟨ρ, S, m, hE, hS, p⟩ => ts_bind (k := fun items S1 => forP dg db items ρ S1) hE hS p fun items S1 m1 H1 J s1 hE1 hS1 hJ p1 => by
    refine ⟨fun i n σ H => ∃ ρ S m, Step m1 H1 m H ∧ RelE (gm X T) m H ρ σ ∧ RelS (gm X T) m S H ∧ (n = items.length - i ∧ i ≤ items.length) ∧ PostS (gm X T) W D m H (forP dg db (items.drop i) ρ S), ⟨_, ρ, S1, m1, Step.refl _ _, hE1, hS1, ⟨rfl, Nat.zero_le _⟩, p1⟩, ?_⟩
    rintro i n σ2 H2 ⟨ρ2, S2, m2, s2, hE2, hS2, ⟨rfl, hle⟩, p2⟩
    by_cases hlt : i < items.length
    · right
      have ei : items[i]? = some items[i] := List.getElem?_eq_getElem hlt
      obtain ⟨hgo, hy⟩ := hJ.go m2 H2 S2 i items[i] s2.emb hS2 ei
      refine ⟨hgo, fun σ H => ∃ ρ S m, Step m1 H1 m H ∧ RelE (gm X T) m H ρ σ ∧ RelS (gm X T) m S H ∧ PostS (gm X T) W D m H (forP dg db (items.drop (i + 1)) ρ S), fun σ' H' ⟨ρ', S', m', a, b, c, d⟩ => ⟨items.length - (i + 1), by omega, ρ', S', m', a, b, c, ⟨rfl, hlt⟩, d⟩, fun v H3 y => ?_⟩
      obtain ⟨s3, hS3, hr3⟩ := hy v H3 y
      rw [List.drop_eq_getElem_cons hlt] at p2
      unfold forP at p2
      refine ⟨items[i], ρ2, S2, m2, hr3, hE2.step s3, hS3, ?_⟩
      have p3 := PostS.step s3 p2
      cases hd : dg items[i] ρ2 S2 with
      | ok ρ' S' =>
        rw [hd] at p3
        refine fun m4 H4 σ4 s4 hS4 hE4 => ⟨ρ', S', m4, hE4, hS4, ?_⟩
        have p4 := PostS.step s4 (show PostS (gm X T) W D m2 H3 (match db ρ' S' with
          | .nx ρ' S' => forP dg db (items.drop (i + 1)) ρ' S'
          | .ct ρ' S' => forP dg db (items.drop (i + 1)) ρ' S'
          | .bk ρ' S' => .nx ρ' S'
          | r => r) from p3)
        have s24 : Step m1 H1 m4 H4 := (s2.trans s3).trans s4
        cases hq : db ρ' S' with
        | nx ρ5 S5 => rw [hq] at p4; exact fun m5 H5 σ5 s5 h5 h6 => ⟨ρ5, S5, m5, s24.trans s5, h6, h5, PostS.step s5 p4⟩
        | ct ρ5 S5 => rw [hq] at p4; exact fun m5 H5 σ5 s5 h5 h6 => ⟨ρ5, S5, m5, s24.trans s5, h6, h5, PostS.step s5 p4⟩
        | bk ρ5 S5 => rw [hq] at p4; exact p4
        | rt v5 S5 => rw [hq] at p4; exact p4
        | exc c fs ρ5 S5 => rw [hq] at p4; exact p4
        | bad => rw [hq] at p4; exact p4
      | exc c fs S' => rw [hd] at p3; exact fun m4 H4 cls dd s4 h4 h5 => p3 m4 H4 σ2 cls dd s4 h4 ((hE2.step s3).step s4) h5
      | bad => rw [hd] at p3; exact p3.elim
    · left
      refine ⟨hJ.stop m2 H2 S2 i s2.emb hS2 (by omega), ?_⟩
      rw [List.drop_eq_nil_of_le (by omega)] at p2
      exact PostS.nx_here p2 hS2 hE2
end Mi
end
section
set_option Elab.async false
set_option linter.all false
set_option maxRecDepth 100000
set_option maxHeartbeats 2000000
namespace Mi
open PySem PySem.Spec PyProof.Rows L2

/-! ### what is walked -/
def srcP : PV → Option (List PV)
  | .tup xs => some xs
  | .ct xs => some xs
  | .nl xs => some xs
  | .fl xs => some xs
  | _ => none
def srcT : PV → Bool
  | .tup _ => true
  | .ct _ => true
  | _ => false
def SqX (K : PySem.W.Frag) (b : Bool) (H : Hp) (a : Addr) (vs : List V) : Prop := if b = true then SqT K H a vs else SqL K H a vs
theorem src_rep {g : Gm} {m : Mm} {H : Hp} {x : PV} {v : V} {xs : List PV} (r : Rep g m H x v) (e : srcP x = some xs) : ∃ a vs, v = .ref a ∧ SqX g.K (srcT x) H a vs ∧ RepL g m H xs vs := by
  cases x with
  | tup ys =>
    cases e
    obtain ⟨a, vs, e, h1, h2⟩ := tup_rep r
    exact ⟨a, vs, e, h1, h2⟩
  | ct ys =>
    cases e
    obtain ⟨a, vs, e, h1, h2⟩ := ct_rep r
    exact ⟨a, vs, e, h1, h2⟩
  | nl ys =>
    cases e
    unfold Rep at r
    obtain ⟨a, vs, e, _, h1, h2⟩ := r
    exact ⟨a, vs, e, .inl (.inl h1), h2⟩
  | fl ys =>
    cases e
    unfold Rep at r
    obtain ⟨a, vs, e, h1, h2⟩ := r
    refine ⟨a, vs, e, ?_, h2⟩
    rcases h1 with ⟨o, h1⟩ | h1
    · exact .inl (.inr ⟨o, h1⟩)
    · rcases h1 with h1 | h1
      · rcases h1 with h1 | ⟨o, h1⟩ <;> cases h1
      · exact .inr h1
  | _ => cases e
def It1 (K : PySem.W.Frag) (b : Bool) (a : Addr) : It := if b = true then Itt K a else Itl K a
theorem itOk_src {g : Gm} {m : Mm} {H : Hp} {x : PV} {a : Addr} {xs : List PV} (r : Rep g m H x (.ref a)) (e : srcP x = some xs) : ItOk g (It1 g.K (srcT x) a) xs m H := by
  refine ⟨fun m1 H1 S i y s hS ey => ?_, fun m1 H1 S i s hS hl => ?_⟩
  · obtain ⟨b, vs, eb, h1, h2⟩ := src_rep (Rep.emb s _ _ r) e
    cases eb
    obtain ⟨w, ew, rw_⟩ := h2.get ey
    unfold It1
    unfold SqX at h1
    cases hb : srcT x with
    | true =>
      rw [hb, if_pos rfl] at h1
      rw [if_pos rfl]
      refine ⟨⟨vs, w, h1, ew⟩, fun v H' ⟨eH, hv⟩ => ?_⟩
      subst eH
      have q := hv vs h1
      rw [ew] at q
      cases q
      exact ⟨Step.refl _ _, hS, rw_⟩
    | false =>
      rw [hb, if_neg Bool.false_ne_true] at h1
      rw [if_neg Bool.false_ne_true]
      refine ⟨⟨vs, w, h1, ew⟩, fun v H' ⟨eH, hv⟩ => ?_⟩
      subst eH
      have q := hv vs h1
      rw [ew] at q
      cases q
      exact ⟨Step.refl _ _, hS, rw_⟩
  · obtain ⟨b, vs, eb, h1, h2⟩ := src_rep (Rep.emb s _ _ r) e
    cases eb
    unfold It1
    unfold SqX at h1
    cases hb : srcT x with
    | true =>
      rw [hb, if_pos rfl] at h1
      rw [if_pos rfl]
      exact ⟨vs, h1, by rw [← h2.length]; exact Nat.le_of_eq hl⟩
    | false =>
      rw [hb, if_neg Bool.false_ne_true] at h1
      rw [if_neg Bool.false_ne_true]
      exact ⟨vs, h1, by rw [← h2.length]; exact Nat.le_of_eq hl⟩
/-- the signs of a text -/
def signs (s : Str) : List PV := s.cps.toList.map fun c => .str ⟨#[c]⟩
theorem itOk_str {g : Gm} {m : Mm} {H : Hp} (s : Str) : ItOk g (Its s) (signs s) m H := by
  refine ⟨fun m1 H1 S i y st hS ey => ?_, fun m1 H1 S i st hS hl => ?_⟩
  · unfold signs at ey
    rw [List.getElem?_map] at ey
    cases e : s.cps.toList[i]? with
    | none => rw [e] at ey; cases ey
    | some c =>
      rw [e] at ey
      cases ey
      have e2 : s.cps[i]? = some c := by rw [← Array.getElem?_toList]; exact e
      have hl : i < s.cps.size := by
        have := (Array.getElem?_eq_some_iff.mp e2).1
        exact this
      refine ⟨hl, fun v H' ⟨eH, c', hc, ev⟩ => ?_⟩
      subst eH
      rw [e2] at hc
      cases hc
      rw [ev]
      exact ⟨Step.refl _ _, hS, mk_str _⟩
  · unfold signs at hl
    rw [List.length_map, Array.length_toList] at hl
    exact Nat.le_of_eq hl
def walkP (x : PV) : Option (List PV) := match x with
  | .str s => some (signs s)
  | x => srcP x
def iSeq (d : EnP → Sto → Res PV) : EnP → Sto → Res (List PV) := fun ρ S => (d ρ S).bind fun x S1 => match walkP x with
  | some xs => .ok xs S1
  | none => .bad
theorem pi_or {X : Cx} {tg e : Expr} {t1 t2 : TI} (h1 : PI X tg e t1) (h2 : PI X tg e t2) : PI X tg e (fun σ H R => t1 σ H R ∨ t2 σ H R) := ⟨fun pins s σ H R I h => by
  rcases h with h | h
  · exact h1.run pins s σ H R I h
  · exact h2.run pins s σ H R I h⟩
/-- tr_bind, the first reading's own answer known -/
theorem tr_bindE {α β α' β' : Type} {g : Gm} {W : WX} {R : Mm → Hp → α → β → Prop} {R' : Mm → Hp → α' → β' → Prop} {d : EnP → Sto → Res α} {f : α → EnP → Sto → Res α'} {σ : L2.St} {H : Hp} {Q : β' → Hp → Prop} {ρ : EnP} {S : Sto} {m : Mm}
    (hE : RelE g m H ρ σ) (hS : RelS g m S H) (p : PostR g W σ m H R' Q ((d ρ S).bind fun a S1 => f a ρ S1)) {Q1 : β → Hp → Prop}
    (h : ∀ a S1 m1 H1 w, d ρ S = .ok a S1 → Step m H m1 H1 → RelE g m1 H1 ρ σ → RelS g m1 S1 H1 → R m1 H1 a w → PostR g W σ m1 H1 R' Q (f a ρ S1) → Q1 w H1) : tr g W R d σ H Q1 := by
  refine ⟨ρ, S, m, hE, hS, ?_⟩
  cases hd : d ρ S with
  | ok a S1 =>
    rw [hd] at p
    exact fun m' H' w s h1 h2 => h a S1 m' H' w hd s (hE.step s) h1 h2 (PostR.step s p)
  | exc c fs S1 =>
    rw [hd] at p
    exact fun m' H' cls dd s h1 h2 => p m' H' cls dd s h1 h2
  | bad =>
    rw [hd] at p
    exact p.elim
section
variable {X : Cx} {T : Tb} {W : WX} {pos tpos p : Pos} {e e2 tg : Expr} {d d2 : EnP → Sto → Res PV} {dl : EnP → Sto → Res (List PV)}
theorem ci_seq (h : CE X T W e d) : CI X T W tg e (iSeq d) :=
  pi_imp (pi_or (pi_or (pi_tup h) (pi_list h)) (pi_str h)) fun σ H R ⟨ρ, S, m, hE, hS, p⟩ => by
    cases hd : d ρ S with
    | bad =>
      unfold iSeq at p
      rw [hd] at p
      exact p.elim
    | exc c fs S1 =>
      refine .inl (.inl ?_)
      exact tr_bindE (f := fun (x : PV) (_ : EnP) (S1 : Sto) => match walkP x with | some xs => Res.ok xs S1 | none => .bad) hE hS p fun a S1 m1 H1 w ed => by rw [hd] at ed; cases ed
    | ok x0 S0 =>
      have go : ∀ (b : Bool), srcT x0 = b → (∀ s, x0 ≠ .str s) → tv (gm X T) W d σ H fun x H1 => ∃ a, x = .ref a ∧ (∃ xs, SqX X.K b H1 a xs) ∧ R (It1 X.K b a) H1 := fun b hb hn =>
        tr_bindE (f := fun (x : PV) (_ : EnP) (S1 : Sto) => match walkP x with | some xs => Res.ok xs S1 | none => .bad) hE hS p fun a S1 m1 H1 w ed s1 hE1 hS1 hr1 p1 => by
          rw [hd] at ed
          cases ed
          have ew : walkP x0 = srcP x0 := by
            cases x0 with
            | str s => exact absurd rfl (hn s)
            | _ => rfl
          cases es : srcP x0 with
          | none => rw [ew, es] at p1; exact p1.elim
          | some xs =>
            rw [ew, es] at p1
            obtain ⟨a, vs, rfl, h1, h2⟩ := src_rep hr1 es
            refine ⟨a, rfl, ⟨vs, by rw [← hb]; exact h1⟩, ?_⟩
            have q := itOk_src hr1 es
            rw [hb] at q
            exact PostR.here (a := xs) p1 hS1 q
      cases x0 with
      | tup xs =>
        refine .inl (.inl ?_)
        have := go true rfl (fun s z => by cases z)
        exact this
      | ct xs =>
        refine .inl (.inl ?_)
        have := go true rfl (fun s z => by cases z)
        exact this
      | str s =>
        refine .inr ?_
        refine tr_bindE (f := fun (x : PV) (_ : EnP) (S1 : Sto) => match walkP x with | some xs => Res.ok xs S1 | none => .bad) hE hS p fun a S1 m1 H1 w ed s1 hE1 hS1 hr1 p1 => ?_
        rw [hd] at ed
        cases ed
        exact ⟨s, rep_str hr1, PostR.here (a := signs s) p1 hS1 (itOk_str s)⟩
      | nl xs => exact .inl (.inr (go false rfl (fun s z => by cases z)))
      | fl xs => exact .inl (.inr (go false rfl (fun s z => by cases z)))
      | _ =>
        unfold iSeq at p
        rw [hd] at p
        exact p.elim
/-! range -/
def upTo (lo : Int) (n : Nat) : List PV := (List.range n).map fun i => .int (lo + (i : Nat))
theorem itOk_rng {g : Gm} {m : Mm} {H : Hp} (lo : Int) (n : Nat) : ItOk g (Itr lo n) (upTo lo n) m H := by
  refine ⟨fun m1 H1 S i y st hS ey => ?_, fun m1 H1 S i st hS hl => ?_⟩
  · unfold upTo at ey
    rw [List.getElem?_map] at ey
    by_cases hi : i < n
    · rw [List.getElem?_range hi] at ey
      cases ey
      refine ⟨hi, fun v H' ⟨eH, ev⟩ => ?_⟩
      subst eH
      rw [ev]
      exact ⟨Step.refl _ _, hS, mk_int _⟩
    · rw [List.getElem?_eq_none (by simpa using hi)] at ey
      cases ey
  · unfold upTo at hl
    rw [List.length_map, List.length_range] at hl
    exact Nat.le_of_eq hl
def iRange (dl : EnP → Sto → Res (List PV)) : EnP → Sto → Res (List PV) := fun ρ S => (dl ρ S).bind fun xs S1 => match xs with
  | [.int j] => if -1000000 ≤ j ∧ j ≤ 1000000 then .ok (upTo 0 j.toNat) S1 else .bad
  | [.int i, .int j] => if -1000000 ≤ i ∧ i ≤ 1000000 ∧ -1000000 ≤ j ∧ j ≤ 1000000 then .ok (upTo i (j - i).toNat) S1 else .bad
  | _ => .bad
theorem ci_range1 (hg : Gl X "range") (hm : X.mg "range" = none) (ha : CA X T W [e] dl) (hs : starEach [e] X.env = [(false, eval e X.env)] := by rfl) (hl : ∀ ρ S xs S1, dl ρ S = .ok xs S1 → xs.length = 1) : CI X T W tg (.Call (.Name "range" p) [e] [] pos) (iRange dl) :=
  pi_imp (pi_range1 hg hm ha hs) fun σ H R ⟨ρ, S, m, hE, hS, p⟩ =>
    tr_bindE (f := fun (xs : List PV) (_ : EnP) (S1 : Sto) => match xs with
      | [.int j] => if -1000000 ≤ j ∧ j ≤ 1000000 then Res.ok (upTo 0 j.toNat) S1 else .bad
      | [.int i, .int j] => if -1000000 ≤ i ∧ i ≤ 1000000 ∧ -1000000 ≤ j ∧ j ≤ 1000000 then .ok (upTo i (j - i).toNat) S1 else .bad
      | _ => .bad) hE hS p fun xs S1 m1 H1 ws ed s1 hE1 hS1 hr1 p1 => by
      have el := hl _ _ _ _ ed
      split at p1
      · rename_i j
        split at p1
        · rename_i h
          obtain ⟨v, rfl, r1⟩ := one_rep hr1
          cases rep_int r1
          exact ⟨j, rfl, by omega, by omega, PostR.here (a := upTo 0 j.toNat) p1 hS1 (itOk_rng 0 j.toNat)⟩
        · exact p1.elim
      · simp at el
      · exact p1.elim
theorem ci_range2 (hg : Gl X "range") (hm : X.mg "range" = none) (ha : CA X T W [e, e2] dl) (hs : starEach [e, e2] X.env = [(false, eval e X.env), (false, eval e2 X.env)] := by rfl) (hs2 : starEach [e2] X.env = [(false, eval e2 X.env)] := by rfl) (hl : ∀ ρ S xs S1, dl ρ S = .ok xs S1 → xs.length = 2) : CI X T W tg (.Call (.Name "range" p) [e, e2] [] pos) (iRange dl) :=
  pi_imp (pi_range2 hg hm ha hs hs2) fun σ H R ⟨ρ, S, m, hE, hS, p⟩ =>
    tr_bindE (f := fun (xs : List PV) (_ : EnP) (S1 : Sto) => match xs with
      | [.int j] => if -1000000 ≤ j ∧ j ≤ 1000000 then Res.ok (upTo 0 j.toNat) S1 else .bad
      | [.int i, .int j] => if -1000000 ≤ i ∧ i ≤ 1000000 ∧ -1000000 ≤ j ∧ j ≤ 1000000 then .ok (upTo i (j - i).toNat) S1 else .bad
      | _ => .bad) hE hS p fun xs S1 m1 H1 ws ed s1 hE1 hS1 hr1 p1 => by
      have el := hl _ _ _ _ ed
      split at p1
      · simp at el
      · rename_i i j
        split at p1
        · rename_i h
          obtain ⟨v, u, rfl, r1, r2⟩ := two_rep hr1
          cases rep_int r1
          cases rep_int r2
          exact ⟨i, j, rfl, ⟨by omega, by omega, by omega, by omega⟩, PostR.here (a := upTo i (j - i).toNat) p1 hS1 (itOk_rng i _)⟩
        · exact p1.elim
      · exact p1.elim
end
theorem dNil_len {ρ : EnP} {S S1 : Sto} {xs : List PV} (h : dNil ρ S = .ok xs S1) : xs.length = 0 := by cases h; rfl
theorem dCons_len {da : EnP → Sto → Res PV} {dr : EnP → Sto → Res (List PV)} {n : Nat} (hr : ∀ ρ S xs S1, dr ρ S = .ok xs S1 → xs.length = n) : ∀ ρ S xs S1, dCons da dr ρ S = .ok xs S1 → xs.length = n + 1 := fun ρ S xs S1 h => by
  unfold dCons at h
  cases e1 : da ρ S with
  | bad => rw [e1] at h; cases h
  | exc c fs S2 => rw [e1] at h; cases h
  | ok x S2 =>
    rw [e1] at h
    have h : (dr ρ S2).bind (fun xs S2 => Res.ok (x :: xs) S2) = .ok xs S1 := h
    cases e2 : dr ρ S2 with
    | bad => rw [e2] at h; cases h
    | exc c fs S3 => rw [e2] at h; cases h
    | ok ys S3 =>
      rw [e2] at h
      cases h
      rw [List.length_cons, hr _ _ _ _ e2]
theorem len1 {da : EnP → Sto → Res PV} : ∀ ρ S xs S1, dCons da dNil ρ S = .ok xs S1 → xs.length = 1 := dCons_len fun _ _ _ _ h => dNil_len h
theorem len2 {da db : EnP → Sto → Res PV} : ∀ ρ S xs S1, dCons da (dCons db dNil) ρ S = .ok xs S1 → xs.length = 2 := dCons_len len1
end Mi
end
section
set_option Elab.async false
set_option linter.all false
set_option maxRecDepth 100000
set_option maxHeartbeats 2000000
namespace Mi
open PySem PySem.Spec PyProof.Rows L2

/-! ### zip of two, each a list or a tuple -/
def ItZ (K : PySem.W.Frag) (b1 b2 : Bool) (a1 a2 : Addr) : It :=
  ⟨fun i H => ∃ (xs ys : List V) (x y : V), SqX K b1 H a1 xs ∧ SqX K b2 H a2 ys ∧ xs[i]? = some x ∧ ys[i]? = some y,
    fun i H v H' => ∃ T x y, v = .ref T ∧ H T = none ∧ H' = upd H T (.tup [x, y]) ∧ (∀ xs, SqX K b1 H a1 xs → xs[i]? = some x) ∧ ∀ ys, SqX K b2 H a2 ys → ys[i]? = some y,
    fun i H => ∃ xs ys : List V, SqX K b1 H a1 xs ∧ SqX K b2 H a2 ys ∧ i ≤ xs.length ∧ i ≤ ys.length ∧ (xs.length = i ∨ ys.length = i)⟩
def itAt (b : Bool) (h : Heap) (it a : Addr) (i : Nat) : Prop := if b = true then h.IsTupleIter it a i else h.IsListIter it a i
theorem itAt.keep {b : Bool} {h h' : Heap} {it a : Addr} {i : Nat} (x : itAt b h it a i) (k : ∀ o, h.get? it = some o → h'.get? it = some o) : itAt b h' it a i := by
  unfold itAt at x ⊢
  cases b with
  | true => rw [if_pos rfl] at x ⊢; exact x.at k
  | false => rw [if_neg Bool.false_ne_true] at x ⊢; exact x.at k
theorem itAt.obj {b : Bool} {h : Heap} {it a : Addr} {i : Nat} (x : itAt b h it a i) : ∃ o, h.get? it = some o ∧ ∀ v, o.data ≠ .cell v := by
  unfold itAt at x
  cases b with
  | true => rw [if_pos rfl] at x; obtain ⟨o, e, _, d⟩ := x; exact ⟨o, e, fun v z => by rw [d] at z; cases z⟩
  | false => rw [if_neg Bool.false_ne_true] at x; obtain ⟨o, e, _, d⟩ := x; exact ⟨o, e, fun v z => by rw [d] at z; cases z⟩
/-- a source, and its iterator, drawn from -/
theorem draws_of {X : Cx} {pins : List (Addr × Obj)} {σ : L2.St} {H : Hp} {s : Shared} {b : Bool} {a it : Addr} {vs : List V} (hh : X.A.handled = none) (I : Inv X pins σ H s) (h : SqX X.K b H a vs) (hne : a ≠ it) :
    ∃ (its : List Value) (St : Nat → Heap → Prop), Vals vs its ∧ a < s.heap.objs.size ∧ Draws X.prog X.w X.A.in1 it [it, a] its.toArray.size (fun i v => its.toArray[i]? = some v) St ∧
      (∀ i, itAt b s.heap it a i → St i s.heap) ∧ ∀ i h', St i h' → itAt b h' it a i := by
  unfold SqX at h
  cases b with
  | true =>
    rw [if_pos rfl] at h
    obtain ⟨its, rv, p, _⟩ := I.tuple h
    have p2 : s.heap.IsTuple a its.toArray := p
    obtain ⟨o, ho, _⟩ := id p
    refine ⟨its, _, rv, Heap.lt_size ho, Draws.tuple (A := X.A.in1) hh it a hne its.toArray, fun i z => ⟨?_, p2⟩, fun i h' z => ?_⟩
    · unfold itAt at z; rw [if_pos rfl] at z; exact z
    · unfold itAt; rw [if_pos rfl]; exact z.1
  | false =>
    rw [if_neg Bool.false_ne_true] at h
    obtain ⟨its, rv, p, _⟩ := I.list h
    refine ⟨its, _, rv, p.lt, Draws.list (A := X.A.in1) hh it a hne its.toArray, fun i z => ⟨?_, p.isList⟩, fun i h' z => ?_⟩
    · unfold itAt at z; rw [if_neg Bool.false_ne_true] at z; exact z
    · unfold itAt; rw [if_neg Bool.false_ne_true]; exact z.1
theorem sqX_inj {X : Cx} {pins : List (Addr × Obj)} {σ : L2.St} {H : Hp} {s : Shared} {b : Bool} {a : Addr} {xs ys : List V} (I : Inv X pins σ H s) (h : SqX X.K b H a xs) (h' : SqX X.K b H a ys) : xs = ys := by
  unfold SqX at h h'
  cases b with
  | true => rw [if_pos rfl] at h h'; exact I.tuple_inj h h'
  | false => rw [if_neg Bool.false_ne_true] at h h'; exact I.list_inj h h'
theorem sep_of {a b z TI TO i1 i2 : Addr} (D : ZipApart z TI TO i1 i2 a b) : ZipSep2 z TI TO i1 i2 [i1, a] [i2, b] :=
  { TIz := D.TIz, TOz := D.TOz, TITO := D.TITO, TIi1 := D.TIi1, mem1 := by simp, zf1 := by simp [Ne.symm D.i1z, Ne.symm D.l1z], Tf1 := by simp [D.TOi1, Ne.symm D.l1TO],
    TIi2 := D.TIi2, mem2 := by simp, zf2 := by simp [Ne.symm D.i2z, Ne.symm D.l2z], Tf2 := by simp [D.TOi2, Ne.symm D.l2TO], sep1_2 := by simp [D.i12, Ne.symm D.l2i1], sep2_1 := by simp [Ne.symm D.i12, Ne.symm D.l1i2] }
theorem turn_Z {P : Program} {w : World} {K : PySem.W.Frag} {elts : List Expr} {kk : Nat} {tpos : Pos} {b1 b2 : Bool} {a b z TI TO i1 i2 : Addr} (D : ZipApart z TI TO i1 i2 a b) :
    Turn P w K (.Tuple elts kk tpos) (ItZ K b1 b2 a b) [z, TI, TO, i1, i2] z (fun i h => IsZip h z TI TO .none ∧ IsPair h TI (.ref i1) (.ref i2) ∧ (∃ x y, IsPair h TO x y) ∧ itAt b1 h i1 a i ∧ itAt b2 h i2 b i) where
  mem := by simp
  obj := fun i h st c hc => by
    obtain ⟨hz, hTI, ⟨x, y, hTO⟩, h1, h2⟩ := st
    have e' : c = z ∨ c = TI ∨ c = TO ∨ c = i1 ∨ c = i2 := by simpa using hc
    rcases e' with q | q | q | q | q
    · rw [q]; exact ⟨_, hz, fun v q => nomatch q⟩
    · rw [q]; exact ⟨_, hTI, fun v q => nomatch q⟩
    · rw [q]; exact ⟨_, hTO, fun v q => nomatch q⟩
    · rw [q]; exact h1.obj
    · rw [q]; exact h2.obj
  keep := fun i h h' st k => by
    obtain ⟨hz, hTI, ⟨x, y, hTO⟩, h1, h2⟩ := st
    exact ⟨k z (by simp) _ hz, k TI (by simp) _ hTI, ⟨x, y, k TO (by simp) _ hTO⟩, h1.keep fun o q => k i1 (by simp) o q, h2.keep fun o q => k i2 (by simp) o q⟩
  item := by
    intro X hP hw hK hc i pins s σ H E I hf st hg
    subst hP hw hK
    obtain ⟨hz, hTI, ⟨x0, y0, hTO⟩, h1, h2⟩ := st
    obtain ⟨xs, ys, x, y, hqx, hqy, hx, hy⟩ := hg
    obtain ⟨its, St1, rv, la, D1, in1, out1⟩ := draws_of (it := i1) (I.ok.hd hc) I hqx D.l1i1
    obtain ⟨its2, St2, rv2, lb, D2, in2, out2⟩ := draws_of (it := i2) (I.ok.hd hc) I hqy D.l2i2
    obtain ⟨u, hu, ru⟩ := rv.get hx
    obtain ⟨u2, hu2, ru2⟩ := rv2.get hy
    have hzl : z < s.heap.objs.size := Heap.lt_size hz
    have n1 : i < its.toArray.size := by
      rw [List.size_toArray, ← rv.length]
      exact (List.getElem?_eq_some_iff.mp hx).1
    have n2 : i < its2.toArray.size := by
      rw [List.size_toArray, ← rv2.length]
      exact (List.getElem?_eq_some_iff.mp hy).1
    refine wpAny_pyNext_zipD2_item (sep_of D) D1 D2 hz hTI hTO (in1 i h1) (in2 i h2) n1 n2 fun x1 x2 h' tk e1 e2 z' TO' st1' st2' hT hsz hk => ?_
    have ex1 : x1 = u := by
      have q : its.toArray[i]? = some u := by simpa using hu
      rw [q] at e1
      cases e1
      rfl
    have ex2 : x2 = u2 := by
      have q : its2.toArray[i]? = some u2 := by simpa using hu2
      rw [q] at e2
      cases e2
      rfl
    subst ex1 ex2
    refine ⟨_, rfl, wpAny_letOwnedTupleGo_zip (s := { s with heap := h', toks := tk }) z' fun h'' z'' sb => ?_⟩
    have hT2 : h''.get? s.heap.objs.size = some { cls := .type "tuple", data := .seq #[x1, x2] } := (sb.2 _ (Nat.ne_of_gt hzl)).trans hT
    have new : ObjOk X.prog X.w (upd H s.heap.objs.size (.tup [x, y])) h'' s.heap.objs.size (.tup [x, y]) :=
      ⟨by show 2 ≤ sizeLine; decide, [x1, x2], .cons ru (.cons ru2 .nil), ⟨_, hT2, rfl, _, rfl⟩⟩
    have I1 : Inv X pins σ (upd H s.heap.objs.size (.tup [x, y])) { s with heap := h'', toks := tk } :=
      I.turnedNew (t' := tk) (ch := [z, TI, TO, i1, i2]) (fun c o hb q => (sb.2 c (fun q' => hb (by simp [q']))).trans (hk c o (fun q' => hb (by simp [q'])) (fun q' => hb (by simp [q'])) (fun q' => hb (by simp [q'])) (fun q' => hb (by simp [q'])) q)) hf (Nat.le_refl _) new
    refine ⟨.ref s.heap.objs.size, _, I1, rfl, ⟨_, x, y, rfl, I.hok.fresh (Nat.le_refl _), rfl, fun l hl => by rw [sqX_inj I hl hqx]; exact hx, fun l hl => by rw [sqX_inj I hl hqy]; exact hy⟩, ⟨z'', ?_, ⟨x1, x2, ?_⟩, ?_, ?_⟩, fun c hcm => ?_⟩
    · exact (sb.2 _ D.TIz).trans (hk _ _ D.TIz D.TITO D.TIi1 D.TIi2 hTI)
    · exact (sb.2 _ D.TOz).trans TO'
    · exact (out1 _ _ st1').keep fun o q => (sb.2 _ D.i1z).trans q
    · exact (out2 _ _ st2').keep fun o q => (sb.2 _ D.i2z).trans q
    · have hlt : c < s.heap.objs.size := by
        have e' : c = z ∨ c = TI ∨ c = TO ∨ c = i1 ∨ c = i2 := by simpa using hcm
        rcases e' with q | q | q | q | q
        · rw [q]; exact hzl
        · rw [q]; exact Heap.lt_size hTI
        · rw [q]; exact Heap.lt_size hTO
        · rw [q]; obtain ⟨_, e1, _⟩ := h1.obj; exact Heap.lt_size e1
        · rw [q]; obtain ⟨_, e2, _⟩ := h2.obj; exact Heap.lt_size e2
      rw [upd_ne (Nat.ne_of_lt hlt)]
      exact (hf c hcm).1
  done := by
    intro X hP hw hK hc i pins s σ H E I hf st hg
    subst hP hw hK
    obtain ⟨hz, hTI, ⟨x0, y0, hTO⟩, h1, h2⟩ := st
    obtain ⟨xs, ys, hqx, hqy, l1, l2, hend⟩ := hg
    obtain ⟨its, St1, rv, la, D1, in1, out1⟩ := draws_of (it := i1) (I.ok.hd hc) I hqx D.l1i1
    obtain ⟨its2, St2, rv2, lb, D2, in2, out2⟩ := draws_of (it := i2) (I.ok.hd hc) I hqy D.l2i2
    have e1 := rv.length
    have e2 := rv2.length
    exact wpAny_pyNext_zipD2_end (sep_of D) D1 D2 hz hTI hTO (in1 i h1) (in2 i h2) (by simp; omega) (by simp; omega) (by simp; omega) fun h' tk hk => ⟨rfl, I.turnedL (t' := tk) (ch := [z, TI, TO, i1, i2]) (fun c o hb q =>
      hk c o (fun q' => hb (by simp [q'])) (fun q' => hb (by simp [q'])) (fun q' => hb (by simp [q'])) (fun q' => hb (by simp [q'])) q) hf⟩
  self := fun A i s Q E st h => wpAny_pyIter_zip st.1 h

/-- iter of a source begins -/
theorem begins_of {X : Cx} {pins : List (Addr × Obj)} {σ : L2.St} {H : Hp} {s : Shared} {b : Bool} {a : Addr} {vs : List V} (I : Inv X pins σ H s) (h : SqX X.K b H a vs) :
    ∃ (o : Obj) (Hh : Heap → Prop), Begins (.ref a) o Hh ∧ Hh s.heap ∧ a < s.heap.objs.size ∧ ∀ (h' : Heap) it, h'.get? it = some o → itAt b h' it a 0 := by
  unfold SqX at h
  cases b with
  | true =>
    rw [if_pos rfl] at h
    obtain ⟨its, rv, p, _⟩ := I.tuple h
    obtain ⟨o, ho, _⟩ := id p
    exact ⟨_, _, begins_tuple a its.toArray, p, Heap.lt_size ho, fun h' it e => by unfold itAt; rw [if_pos rfl]; exact ⟨_, e, rfl, rfl⟩⟩
  | false =>
    rw [if_neg Bool.false_ne_true] at h
    obtain ⟨its, rv, p, _⟩ := I.list h
    exact ⟨_, _, begins_list a its.toArray, p.isList, p.lt, fun h' it e => by unfold itAt; rw [if_neg Bool.false_ne_true]; exact ⟨_, e, rfl, rfl⟩⟩
def iZipX (K : PySem.W.Frag) (ta : TA) : TI := fun σ H R => ta σ H fun vs H1 => ∃ b1 b2 a b xs ys, vs = [.ref a, .ref b] ∧ SqX K b1 H1 a xs ∧ SqX K b2 H1 b ys ∧ R (ItZ K b1 b2 a b) H1
theorem pi_zipX {X : Cx} {e e2 : Expr} {ta : TA} {p pos tpos : Pos} {elts : List Expr} {kk : Nat} (hg : Gl X "zip") (hm : X.mg "zip" = none) (ha : PA X [e, e2] ta)
    (hs : starEach [e, e2] X.env = (false, eval e X.env) :: starEach [e2] X.env := by rfl) (hpl : (backTo pos (starEach [e2] X.env)).any (·.1) = false := by rfl) :
    PI X (.Tuple elts kk tpos) (.Call (.Name "zip" p) [e, e2] [] pos) (iZipX X.K ta) := by
  refine ⟨fun pins s σ H R I h => ?_⟩
  refine Call_ (ld_blt I hg hm PyProof.Rows.boot_zip (PyProof.Rows.callWith_type1 (thn (ha.run pos pins s σ H _ I h) fun us s1 ⟨vs, H1, I1, r1, q1⟩ => ?_) hs hpl))
  obtain ⟨b1, b2, a, b, xs, ys, ex, hqx, hqy, q⟩ := q1
  subst ex
  cases r1 with
  | cons r rr =>
    cases rr with
    | cons r' rr =>
      cases rr
      cases r
      cases r'
      have fresh5 : ∀ c, c ∈ [s1.heap.objs.size + 4, s1.heap.objs.size + 2, s1.heap.objs.size + 3, s1.heap.objs.size, s1.heap.objs.size + 1] → FpOk X pins H1 c := fun c hcm => by
        have e' : c = s1.heap.objs.size + 4 ∨ c = s1.heap.objs.size + 2 ∨ c = s1.heap.objs.size + 3 ∨ c = s1.heap.objs.size ∨ c = s1.heap.objs.size + 1 := by simpa using hcm
        have hle : s1.heap.objs.size ≤ c := by
          rcases e' with z | z | z | z | z
          · rw [z]; exact Nat.le_add_right _ _
          · rw [z]; exact Nat.le_add_right _ _
          · rw [z]; exact Nat.le_add_right _ _
          · rw [z]; exact Nat.le_refl _
          · rw [z]; exact Nat.le_add_right _ _
        exact I1.fpOk hle (I1.hok.fresh hle)
      obtain ⟨o1, Hh1, B1, k1, la, at1⟩ := begins_of I1 hqx
      obtain ⟨o2, Hh2, B2, k2, lb, at2⟩ := begins_of I1 hqy
      refine zip_begins2 B1 B2 k1 k2 fun h' hz hTI hTO g1 g2 hsz hk => wpAny_pyIter_zip hz ?_
      have I2 : Inv X pins σ H1 { s1 with heap := h' } := I1.kept (t' := s1.toks) hk
      exact ⟨s1.heap.objs.size + 4, [s1.heap.objs.size + 4, s1.heap.objs.size + 2, s1.heap.objs.size + 3, s1.heap.objs.size, s1.heap.objs.size + 1], _, _, H1, rfl, I2, turn_Z (PySem.W.ktu_apart s1.heap.objs.size a b la lb), ⟨hz, hTI, ⟨_, _, hTO⟩, at1 _ _ g1, at2 _ _ g2⟩, fresh5, q⟩

def zipP (xs ys : List PV) : List PV := (xs.zip ys).map fun p => .tup [p.1, p.2]
theorem itOk_zip {g : Gm} {m : Mm} {H : Hp} {x y : PV} {a b : Addr} {xs ys : List PV} (r : Rep g m H x (.ref a)) (e : srcP x = some xs) (r' : Rep g m H y (.ref b)) (e' : srcP y = some ys) : ItOk g (ItZ g.K (srcT x) (srcT y) a b) (zipP xs ys) m H := by
  refine ⟨fun m1 H1 S i t s hS ey => ?_, fun m1 H1 S i s hS hl => ?_⟩
  · obtain ⟨b1, vs, eb, h1, h2⟩ := src_rep (Rep.emb s _ _ r) e
    cases eb
    obtain ⟨b2, us, eb, h1', h2'⟩ := src_rep (Rep.emb s _ _ r') e'
    cases eb
    unfold zipP at ey
    rw [List.getElem?_map] at ey
    cases e3 : (xs.zip ys)[i]? with
    | none => rw [e3] at ey; cases ey
    | some pq =>
      rw [e3] at ey
      cases ey
      obtain ⟨ex, ey⟩ := List.getElem?_zip_eq_some.mp e3
      obtain ⟨w, ew, r1⟩ := h2.get ex
      obtain ⟨w', ew', r2⟩ := h2'.get ey
      refine ⟨⟨vs, us, w, w', h1, h1', ew, ew'⟩, fun v H' ⟨TA, x', y', ev, hT, eH, f1, f2⟩ => ?_⟩
      have q1 := f1 vs h1
      have q2 := f2 us h1'
      rw [ew] at q1
      rw [ew'] at q2
      cases q1
      cases q2
      subst ev eH
      have st := step_new (m := m1) (o := HO.tup [w, w']) hT
      refine ⟨st, hS.new hT, ?_⟩
      unfold Rep
      exact ⟨_, _, rfl, .inl (.inl upd_same), (RepL.cons r1 (RepL.cons r2 RepL.nil)).step st⟩
  · obtain ⟨b1, vs, eb, h1, h2⟩ := src_rep (Rep.emb s _ _ r) e
    cases eb
    obtain ⟨b2, us, eb, h1', h2'⟩ := src_rep (Rep.emb s _ _ r') e'
    cases eb
    unfold zipP at hl
    rw [List.length_map, List.length_zip] at hl
    have e1 := h2.length
    have e2 := h2'.length
    exact ⟨vs, us, h1, h1', by omega, by omega, by omega⟩
def iZip2 (dl : EnP → Sto → Res (List PV)) : EnP → Sto → Res (List PV) := fun ρ S => (dl ρ S).bind fun xs S1 => match xs with
  | [x, y] => (match srcP x, srcP y with
    | some a, some b => .ok (zipP a b) S1
    | _, _ => .bad)
  | _ => .bad
section
variable {X : Cx} {T : Tb} {W : WX} {pos tpos p : Pos} {e e2 : Expr} {elts : List Expr} {kk : Nat} {dl : EnP → Sto → Res (List PV)}
theorem ci_zip (hg : Gl X "zip") (hm : X.mg "zip" = none) (ha : CA X T W [e, e2] dl) (hs : starEach [e, e2] X.env = (false, eval e X.env) :: starEach [e2] X.env := by rfl) (hpl : (backTo pos (starEach [e2] X.env)).any (·.1) = false := by rfl) :
    CI X T W (.Tuple elts kk tpos) (.Call (.Name "zip" p) [e, e2] [] pos) (iZip2 dl) :=
  pi_imp (pi_zipX hg hm ha hs hpl) fun σ H R ⟨ρ, S, m, hE, hS, p⟩ =>
    tr_bindE (f := fun (xs : List PV) (_ : EnP) (S1 : Sto) => match xs with
      | [x, y] => (match srcP x, srcP y with
        | some a, some b => Res.ok (zipP a b) S1
        | _, _ => .bad)
      | _ => .bad) hE hS p fun xs S1 m1 H1 ws ed s1 hE1 hS1 hr1 p1 => by
      split at p1
      · rename_i x y
        split at p1
        · rename_i a b e1 e2
          obtain ⟨v, u, rfl, r1, r2⟩ := two_rep hr1
          obtain ⟨a1, vs, rfl, k1, _⟩ := src_rep r1 e1
          obtain ⟨a2, us, rfl, k2, _⟩ := src_rep r2 e2
          exact ⟨_, _, a1, a2, vs, us, rfl, k1, k2, PostR.here (a := zipP a b) p1 hS1 (itOk_zip r1 e1 r2 e2)⟩
        · exact p1.elim
      · exact p1.elim
end
end Mi
end
section
set_option Elab.async false
set_option linter.all false
set_option maxRecDepth 100000
set_option maxHeartbeats 2000000
namespace Mi
open PySem PySem.Spec PyProof.Rows L2

/-! ### a list that is being made -/
def Mm.open_ (m : Mm) (D : Addr) : Mm := ⟨m.ix, D :: m.ex⟩
def Mm.shut (m : Mm) (D : Addr) : Mm := ⟨m.ix, m.ex.filter (· != D)⟩
theorem RelE.emw {g : Gm} {m m' : Mm} {H H' : Hp} {ρ : EnP} {σ : L2.St} (s : Emw m H m' H') (r : RelE g m H ρ σ) : RelE g m' H' ρ σ :=
  ⟨r.len, fun i v e => let ⟨w, e1, e2⟩ := r.at_ i v e; ⟨w, e1, Rep.emw s _ _ e2⟩⟩
theorem RelE.emb {g : Gm} {m m' : Mm} {H H' : Hp} {ρ : EnP} {σ : L2.St} (s : Emb m H m' H') (r : RelE g m H ρ σ) : RelE g m' H' ρ σ := RelE.emw s.emw r
section
variable {g : Gm} {m m1 : Mm} {S : Sto} {H H1 : Hp} {D : Addr} {avs us : List V}
theorem step_open (hD : H D = none) : Step m H (m.open_ D) (upd H D (HO.lst [])) :=
  ⟨⟨[], by simp [Mm.open_]⟩, fun a h => List.mem_cons_of_mem _ h, fun a h1 h2 _ => by
      rcases List.mem_cons.mp h1 with e | e
      · rw [e]; exact nil_of hD
      · exact absurd e h2,
    fun a h1 h2 => absurd h1 h2, (step_new hD (m := m)).keep, (step_new hD (m := m)).tup, (step_new hD (m := m)).frz⟩
theorem RelS.open_ (h : RelS g m S H) (hD : H D = none) : RelS g (m.open_ D) S (upd H D (HO.lst [])) :=
  ⟨h.len, h.nd, fun a ha => by
    rcases List.mem_cons.mp ha with e | e
    · rw [e]
      exact ⟨(h.fresh hD).1, _, upd_same, tr_lst⟩
    · exact ⟨(h.exs a e).1, (h.exs a e).2.imp fun vs q => ⟨by rw [upd_ne (ne_of_none q.1 hD)]; exact q.1, q.2⟩⟩, fun n xs e => by
    obtain ⟨a, vs, e1, e2, e3⟩ := h.at_ n xs e
    exact ⟨a, vs, e1, by rw [upd_ne (ne_of_none e2 hD)]; exact e2, RSO.step (step_open hD) e3⟩, tabs_new hD h.tab⟩
/-- one more item -/
theorem emb_ex (hm : D ∈ m.ex) (hD : H D = some (HO.lst avs)) : Emb m H m (upd H D (HO.lst us)) :=
  ⟨fun n a e => e, fun a o n e nt => ⟨n, by rw [upd_ne (fun q : a = D => n.2 (by rw [q]; exact hm))]; exact e⟩, fun a xs e => by rw [upd_ne (ne_of e hD (fun z => by cases z))]; exact e, fun a o u e => by rw [upd_ne (ne_of e hD (fun z => by cases z))]; exact e⟩
theorem RelS.ex_ (h : RelS g m S H) (hm : D ∈ m.ex) (hD : H D = some (HO.lst avs)) : RelS g m S (upd H D (HO.lst us)) :=
  ⟨h.len, h.nd, fun a ha => ⟨(h.exs a ha).1, by
      by_cases q : a = D
      · rw [q, upd_same]; exact ⟨_, rfl, tr_lst⟩
      · rw [upd_ne q]; exact (h.exs a ha).2⟩, fun n xs e => by
    obtain ⟨a, vs, e1, e2, e3⟩ := h.at_ n xs e
    have na : a ≠ D := fun q => (h.exs D hm).1 (by rw [← q]; exact List.mem_of_getElem? e1)
    exact ⟨a, vs, e1, by rw [upd_ne na]; exact e2, RSO.emb (emb_ex hm hD) e3⟩, tabs_write hD h.tab⟩
theorem step_ex (s : Step m1 H1 m H) (hn : H1 D = none) (hD : H D = some (HO.lst avs)) : Step m1 H1 m (upd H D (HO.lst us)) :=
  ⟨s.pre, s.exo, s.exn, s.new, fun a o n e nt => by rw [upd_ne (ne_of_none e hn)]; exact s.keep a o n e nt, fun a xs e => by rw [upd_ne (ne_of_none e hn)]; exact s.tup a xs e, fun a o u e => by rw [upd_ne (ne_of_none e hn)]; exact s.frz a o u e⟩
/-- it is made: nobody changes it, or it comes to the store -/
theorem mem_shut {a : Addr} : a ∈ (m.shut D).ex ↔ a ∈ m.ex ∧ a ≠ D := by simp [Mm.shut]
theorem step_shut (s : Step m1 H1 m H) (h1 : D ∉ m1.ex) : Step m1 H1 (m.shut D) H :=
  ⟨s.pre, fun a ha => mem_shut.mpr ⟨s.exo a ha, fun q => h1 (by rw [← q]; exact ha)⟩, fun a ha n => s.exn a (mem_shut.mp ha).1 n, s.new, s.keep, s.tup, s.frz⟩
theorem step_shutP (s : Step m1 H1 m H) (hn : H1 D = none) (h1 : D ∉ m1.ex) : Step m1 H1 ((m.shut D).push D) H := by
  refine ⟨?_, (step_shut s h1).exo, (step_shut s h1).exn, fun a ha n => ?_, s.keep, s.tup, s.frz⟩
  · obtain ⟨l, e⟩ := s.pre
    exact ⟨l ++ [D], by show m.ix ++ [D] = _; rw [e, List.append_assoc]⟩
  · rcases List.mem_append.mp ha with z | z
    · exact s.new a z n
    · rw [List.mem_singleton.mp z]; exact nil_of hn
theorem emb_shut (hm : D ∈ m.ex) : Emb m H (m.shut D) H :=
  ⟨fun n a e => e, fun a o n e nt => ⟨⟨n.1, fun q => n.2 (mem_shut.mp q).1⟩, e⟩, fun a xs e => e, fun a o u e => e⟩
theorem emb_shutP (hm : D ∈ m.ex) : Emb m H ((m.shut D).push D) H :=
  ⟨fun n a e => by
      show (m.ix ++ [D])[n]? = some a
      rw [List.getElem?_append_left (List.getElem?_eq_some_iff.mp e).1]
      exact e, fun a o n e nt => ⟨⟨fun q => by
      rcases List.mem_append.mp q with z | z
      · exact n.1 z
      · exact n.2 (by rw [List.mem_singleton.mp z]; exact hm), fun q => n.2 (mem_shut.mp q).1⟩, e⟩, fun a xs e => e, fun a o u e => e⟩
theorem RelS.shut (h : RelS g m S H) (hm : D ∈ m.ex) : RelS g (m.shut D) S H :=
  ⟨h.len, h.nd, fun a ha => h.exs a (mem_shut.mp ha).1, fun n xs e => by
    obtain ⟨a, vs, e1, e2, e3⟩ := h.at_ n xs e
    exact ⟨a, vs, e1, e2, RSO.emb (emb_shut hm) e3⟩, h.tab⟩
theorem RelS.shutP {xs : List PV} (hb : Bare g) (h : RelS g m S H) (hm : D ∈ m.ex) (hD : H D = some (HO.lst avs)) (r : RepL g m H xs avs) : RelS g ((m.shut D).push D) (S ++ [SO.lst xs]) H := by
  refine ⟨?_, ?_, fun a ha => ⟨fun q => ?_, (h.exs a (mem_shut.mp ha).1).2⟩, fun n ys e => ?_, h.tab⟩
  · show (m.ix ++ [D]).length = _
    simp [h.len]
  · show (m.ix ++ [D]).Nodup
    rw [List.nodup_append]
    refine ⟨h.nd, by simp, fun a ha b hb q => ?_⟩
    rw [List.mem_singleton.mp hb] at q
    exact (h.exs D hm).1 (by rw [← q]; exact ha)
  · rcases List.mem_append.mp q with z | z
    · exact (h.exs a (mem_shut.mp ha).1).1 z
    · exact (mem_shut.mp ha).2 (List.mem_singleton.mp z)
  · by_cases hn : n < S.length
    · rw [List.getElem?_append_left hn] at e
      obtain ⟨a, vs, e1, e2, e3⟩ := h.at_ n ys e
      exact ⟨a, vs, (emb_shutP (H := H) hm).get n a e1, e2, RSO.emb (emb_shutP hm) e3⟩
    · rw [List.getElem?_append_right (by omega)] at e
      have hz : n - S.length = 0 := by
        have z := (List.getElem?_eq_some_iff.mp e).1
        simp at z; omega
      rw [hz] at e
      cases e
      refine ⟨D, _, ?_, hD, by rw [hb]; exact ⟨avs, rfl, RepL.emb (emb_shutP hm) _ _ r⟩⟩
      show (m.ix ++ [D])[n]? = some D
      rw [List.getElem?_append_right (by rw [h.len]; omega), h.len, hz]
      rfl
end

/-! ### slots that a comprehension forgets -/
def wipeP (ρ : EnP) : List Nat → EnP
  | [] => ρ
  | v :: vs => (wipeP ρ vs).set v none
theorem wipeP_length (ρ : EnP) : ∀ vs : List Nat, (wipeP ρ vs).length = ρ.length
  | [] => rfl
  | v :: vs => by unfold wipeP; rw [List.length_set, wipeP_length ρ vs]
theorem wipe_get {σ : L2.St} {i : Nat} : ∀ {vs : List Nat}, i ∉ vs → (wipe σ vs)[i]? = σ[i]?
  | [], _ => rfl
  | v :: vs, h => by
    unfold wipe
    rw [List.getElem?_set_ne (fun e => h (by rw [e]; exact List.mem_cons_self))]
    exact wipe_get fun z => h (List.mem_cons_of_mem _ z)
theorem wipeP_some {ρ : EnP} {i : Nat} {x : PV} : ∀ {vs : List Nat}, (wipeP ρ vs)[i]? = some (some x) → ρ[i]? = some (some x) ∧ i ∉ vs
  | [], h => ⟨h, by simp⟩
  | v :: vs, h => by
    unfold wipeP at h
    by_cases hi : v = i
    · subst hi
      by_cases hv : v < (wipeP ρ vs).length
      · rw [List.getElem?_set_self hv] at h; cases h
      · rw [List.getElem?_eq_none (by simpa using hv)] at h; cases h
    · rw [List.getElem?_set_ne hi] at h
      obtain ⟨h1, h2⟩ := wipeP_some h
      exact ⟨h1, by simp only [List.mem_cons, not_or]; exact ⟨fun e => hi e.symm, h2⟩⟩
theorem RelE.wipe {g : Gm} {m : Mm} {H : Hp} {ρ : EnP} {σ : L2.St} (r : RelE g m H ρ σ) (vs : List Nat) : RelE g m H (wipeP ρ vs) (L2.wipe σ vs) :=
  ⟨by rw [wipeP_length, wipe_length, r.len], fun i v e => by
    obtain ⟨e1, e2⟩ := wipeP_some e
    obtain ⟨w, e3, e4⟩ := r.at_ i v e1
    exact ⟨w, by rw [wipe_get e2]; exact e3, e4⟩⟩
theorem wipe_get_in {σ : L2.St} {i : Nat} : ∀ {vs : List Nat}, i ∈ vs → i < σ.length → (wipe σ vs)[i]? = some none
  | v :: vs, h, hl => by
    unfold wipe
    by_cases hv : v = i
    · subst hv
      rw [List.getElem?_set_self (by rw [wipe_length]; exact hl)]
    · rw [List.getElem?_set_ne hv]
      refine wipe_get_in ?_ hl
      rcases List.mem_cons.mp h with e | e
      · exact absurd e.symm hv
      · exact e
theorem wipe_ext {σ τ : L2.St} {vs : List Nat} (hl : σ.length = τ.length) (h : ∀ i, i ∉ vs → σ[i]? = τ[i]?) : wipe σ vs = wipe τ vs := by
  refine List.ext_getElem? fun i => ?_
  by_cases hi : i ∈ vs
  · by_cases hlt : i < σ.length
    · rw [wipe_get_in hi hlt, wipe_get_in hi (by rw [← hl]; exact hlt)]
    · rw [List.getElem?_eq_none (by rw [wipe_length]; omega), List.getElem?_eq_none (by rw [wipe_length]; omega)]
  · rw [wipe_get hi, wipe_get hi, h i hi]
theorem wipe_wipe (σ : L2.St) (vs : List Nat) : wipe (wipe σ vs) vs = wipe σ vs := wipe_ext (wipe_length _ _) fun i hi => wipe_get hi
theorem wipe_set (σ : L2.St) (vs : List Nat) {i : Nat} (x : Option V) (h : i ∈ vs) : wipe (σ.set i x) vs = wipe σ vs := wipe_ext (by rw [List.length_set]) fun j hj => List.getElem?_set_ne (fun e => hj (by rw [← e]; exact h))

/-! ### targets of a comprehension -/
/-- the target takes a tree into own slots alone -/
def TgC (g : Gm) (vs : List Nat) (t : TG) (f : PV → EnP → Option EnP) : Prop :=
  ∀ (m : Mm) (H : Hp) (x : PV) (v : V) (ρ ρ' : EnP) (σ : L2.St) (Q : L2.St → Hp → Prop), Rep g m H x v → RelE g m H ρ σ → f x ρ = some ρ' → (∀ σ', wipe σ' vs = wipe σ vs → RelE g m H ρ' σ' → Q σ' H) → t v σ H Q
def TgCs (g : Gm) (vs : List Nat) (t : TGs) (f : List PV → EnP → Option EnP) : Prop :=
  ∀ (m : Mm) (H : Hp) (xs : List PV) (us : List V) (ρ ρ' : EnP) (σ : L2.St) (Q : L2.St → Hp → Prop), RepL g m H xs us → RelE g m H ρ σ → f xs ρ = some ρ' → (∀ σ', wipe σ' vs = wipe σ vs → RelE g m H ρ' σ' → Q σ' H) → t us σ H Q
def cNm (i : Nat) : PV → EnP → Option EnP := fun x ρ => some (ρ.set i (some x))
def cNil : List PV → EnP → Option EnP := fun xs ρ => match xs with
  | [] => some ρ
  | _ => none
def cCons (f : PV → EnP → Option EnP) (fs : List PV → EnP → Option EnP) : List PV → EnP → Option EnP := fun xs ρ => match xs with
  | x :: r => (match f x ρ with
    | some ρ' => fs r ρ'
    | none => none)
  | [] => none
def cTup (n : Nat) (fs : List PV → EnP → Option EnP) : PV → EnP → Option EnP := fun x ρ => match x with
  | .tup xs => if xs.length = n then fs xs ρ else none
  | _ => none
theorem tgc_name {g : Gm} {vs : List Nat} {i : Nat} (h : i ∈ vs) : TgC g vs (gName i) (cNm i) := fun m H x v ρ ρ' σ Q r hE e q => by
  cases e
  exact q _ (wipe_set σ vs _ h) (hE.set i r)
theorem tgcs_nil {g : Gm} {vs : List Nat} : TgCs g vs gNil cNil := fun m H xs us ρ ρ' σ Q r hE e q => by
  cases xs with
  | nil =>
    cases e
    unfold RepL at r
    exact ⟨r, q σ rfl hE⟩
  | cons x xs => cases e
theorem tgcs_cons {g : Gm} {vs : List Nat} {t : TG} {f : PV → EnP → Option EnP} {ts : TGs} {fs : List PV → EnP → Option EnP} (h : TgC g vs t f) (hs : TgCs g vs ts fs) : TgCs g vs (gCons t ts) (cCons f fs) := fun m H xs us ρ ρ' σ Q r hE e q => by
  cases xs with
  | nil => cases e
  | cons x xs =>
    unfold RepL at r
    obtain ⟨v, ws, rfl, r1, r2⟩ := r
    simp only [cCons] at e
    cases e1 : f x ρ with
    | none => rw [e1] at e; cases e
    | some ρ1 =>
      rw [e1] at e
      exact ⟨v, ws, rfl, h m H x v ρ ρ1 σ _ r1 hE e1 fun σ' w hE' => hs m H xs ws ρ1 ρ' σ' Q r2 hE' e fun σ'' w' hE'' => q σ'' (w'.trans w) hE''⟩
theorem tgc_tup {g : Gm} {vs : List Nat} {n : Nat} {ts : TGs} {fs : List PV → EnP → Option EnP} (hs : TgCs g vs ts fs) : TgC g vs (gTup g.K n ts) (cTup n fs) := fun m H x v ρ ρ' σ Q r hE e q => by
  cases x with
  | tup xs =>
    simp only [cTup] at e
    split at e
    · rename_i hl
      obtain ⟨a, us, rfl, h1, h2⟩ := tup_rep r
      exact ⟨a, us, rfl, h1, by rw [← h2.length]; exact hl, hs m H xs us ρ ρ' σ Q h2 hE e q⟩
    · cases e
  | _ => cases e

/-! ### comprehensions -/
abbrev W0 : WX := fun _ _ _ _ => False
def lcP (f : PV → EnP → Option EnP) (dt : EnP → Sto → Res Bool) (de : EnP → Sto → Res PV) (ρ : EnP) : List PV → List PV → Sto → Res (List PV)
  | [], acc, S => .ok acc S
  | x :: xs, acc, S => match f x ρ with
    | none => .bad
    | some ρ1 => (match dt ρ1 S with
      | .ok true S1 => (match de ρ1 S1 with
        | .ok y S2 => if acc.length < lim then lcP f dt de ρ xs (acc ++ [y]) S2 else .bad
        | _ => .bad)
      | .ok false S1 => lcP f dt de ρ xs acc S1
      | _ => .bad)
def dYes : EnP → Sto → Res Bool := fun _ S => .ok true S
def dLc (mt : Bool) (di : EnP → Sto → Res (List PV)) (f : PV → EnP → Option EnP) (dt : EnP → Sto → Res Bool) (de : EnP → Sto → Res PV) (vs : List Nat) : EnP → Sto → Res PV := fun ρ S =>
  (di ρ S).bind fun items S1 => (lcP f dt de (wipeP ρ vs) items [] S1).bind fun acc S2 => mkLst mt acc S2
theorem lc_sound {X : Cx} {T : Tb} {W : WX} {wi : TI} {g : TG} {tt : TT} {te : TE} {vs : List Nat} {di : EnP → Sto → Res (List PV)} {f : PV → EnP → Option EnP} {dt : EnP → Sto → Res Bool} {de : EnP → Sto → Res PV} (mt : Bool) (hb : mt = true → Bare (gm X T))
    (hi : ∀ σ H R, tr (gm X T) W (fun m' H' items J => ItOk (gm X T) J items m' H') di σ H R → wi σ H R) (hg : TgC (gm X T) vs g f)
    (ht : ∀ σ H Q, tb (gm X T) W0 dt σ H Q → tt σ H Q) (he : ∀ σ H Q, tv (gm X T) W0 de σ H Q → te σ H Q) {σ : L2.St} {H : Hp} {Q : VK} (h : tv (gm X T) W (dLc mt di f dt de vs) σ H Q) : tLc wi g tt te vs σ H Q := by
  obtain ⟨ρ, S, m, hE, hS, p⟩ := h
  refine hi _ _ _ (tr_bind (f := fun items ρ S1 => (lcP f dt de (wipeP ρ vs) items [] S1).bind fun acc S2 => mkLst mt acc S2) hE hS p fun items S1 m1 H1 J s1 hE1 hS1 hJ p1 D hD => ?_)
  have D1 : D ∉ m1.ex := (hS1.fresh hD).2
  refine ⟨fun i n H => ∃ S m acc avs, Step m1 H1 m H ∧ D ∈ m.ex ∧ H D = some (HO.lst avs) ∧ RepL (gm X T) m H acc avs ∧ RelS (gm X T) m S H ∧ RelE (gm X T) m H (wipeP ρ vs) (wipe σ vs) ∧ (n = items.length - i ∧ i ≤ items.length) ∧ PostV (gm X T) W σ m1 H1 Q ((lcP f dt de (wipeP ρ vs) (items.drop i) acc S).bind fun acc S2 => mkLst mt acc S2),
    ⟨_, S1, m1.open_ D, [], [], step_open hD, List.mem_cons_self, upd_same, RepL.nil, hS1.open_ hD, (hE1.wipe vs).step (step_open hD), ⟨rfl, Nat.zero_le _⟩, p1⟩, ?_⟩
  rintro i n H2 ⟨S2, m2, acc, avs, s2, hm2, hD2, ra, hS2, hE2, ⟨rfl, hle⟩, p2⟩
  by_cases hlt : i < items.length
  · right
    have ei : items[i]? = some items[i] := List.getElem?_eq_getElem hlt
    obtain ⟨hgo, hy⟩ := hJ.go m2 H2 S2 i items[i] s2.emb hS2 ei
    refine ⟨hgo, fun H => ∃ S m acc avs, Step m1 H1 m H ∧ D ∈ m.ex ∧ H D = some (HO.lst avs) ∧ RepL (gm X T) m H acc avs ∧ RelS (gm X T) m S H ∧ RelE (gm X T) m H (wipeP ρ vs) (wipe σ vs) ∧ PostV (gm X T) W σ m1 H1 Q ((lcP f dt de (wipeP ρ vs) (items.drop (i + 1)) acc S).bind fun acc S2 => mkLst mt acc S2),
      fun H' ⟨S', m', acc', avs', a, b, c, d, e, f1, k⟩ => ⟨items.length - (i + 1), by omega, S', m', acc', avs', a, b, c, d, e, f1, ⟨rfl, hlt⟩, k⟩, fun v H3 y => ?_⟩
    obtain ⟨s3, hS3, hr3⟩ := hy v H3 y
    rw [List.drop_eq_getElem_cons hlt] at p2
    unfold lcP at p2
    have D2 : D ∉ m2.ix := (hS2.exs D hm2).1
    have lstk : ∀ {m' H'}, Step m2 H2 m' H' → D ∈ m'.ex ∧ H' D = some (HO.lst avs) := fun s => ⟨s.exo D hm2, s.keep D _ D2 hD2 nt_lst⟩
    have hE3 := hE2.step s3
    cases ef : f items[i] (wipeP ρ vs) with
    | none => rw [ef] at p2; exact p2.elim
    | some ρ1 =>
      simp only [ef] at p2
      refine hg m2 H3 items[i] v (wipeP ρ vs) ρ1 (wipe σ vs) _ hr3 hE3 ef fun σ' w hE' => ⟨by rw [w, wipe_wipe], ?_⟩
      refine ht _ _ _ ⟨ρ1, S2, m2, hE', hS3, ?_⟩
      cases et : dt ρ1 S2 with
      | bad => simp only [et] at p2; exact p2.elim
      | exc c fs S3 => simp only [et] at p2; exact p2.elim
      | ok b S3 =>
        simp only [et] at p2
        intro m4 H4 b' s4 hS4 eb
        cases eb
        have s24 := s3.trans s4
        cases b with
        | false =>
          rw [if_neg Bool.false_ne_true]
          exact ⟨S3, m4, acc, avs, s2.trans s24, (lstk s24).1, (lstk s24).2, RepL.step s24 _ _ ra, hS4, hE2.step s24, p2⟩
        | true =>
          rw [if_pos rfl]
          refine he _ _ _ ⟨ρ1, S3, m4, hE'.step s4, hS4, ?_⟩
          cases ee : de ρ1 S3 with
          | bad => simp only [ee] at p2; exact p2.elim
          | exc c fs S5 => simp only [ee] at p2; exact p2.elim
          | ok y5 S5 =>
            simp only [ee] at p2
            by_cases hz : acc.length < lim
            · rw [if_pos hz] at p2
              intro m5 H5 w5 s5 hS5 hr5
              have s25 := s24.trans s5
              have k5 := lstk s25
              refine ⟨avs, k5.2, by rw [sizeLine_eq, ← ra.length]; exact hz, S5, m5, acc ++ [y5], avs ++ [w5], step_ex (s2.trans s25) hD k5.2, k5.1, upd_same, ?_, hS5.ex_ k5.1 k5.2, (hE2.step s25).emb (emb_ex k5.1 k5.2), p2⟩
              exact RepL.emb (emb_ex k5.1 k5.2) _ _ ((RepL.step s25 _ _ ra).append (RepL.cons hr5 RepL.nil))
            · rw [if_neg hz] at p2; exact p2.elim
  · left
    refine ⟨hJ.stop m2 H2 S2 i s2.emb hS2 (by omega), ?_⟩
    rw [List.drop_eq_nil_of_le (by omega)] at p2
    have p3 : PostV (gm X T) W σ m1 H1 Q (mkLst mt acc S2) := p2
    unfold mkLst at p3
    split at p3
    · cases mt with
      | true =>
        refine p3 ((m2.shut D).push D) H2 (.ref D) (step_shutP s2 hD D1) (hS2.shutP (hb rfl) hm2 hD2 ra) ?_
        show Rep _ _ _ (.ref S2.length) _
        unfold Rep
        refine ⟨D, ?_, rfl⟩
        show (m2.ix ++ [D])[S2.length]? = some D
        rw [List.getElem?_append_right (by rw [hS2.len]; omega), hS2.len]
        simp
      | false =>
        refine p3 (m2.shut D) H2 (.ref D) (step_shut s2 D1) (hS2.shut hm2) ?_
        show Rep _ _ _ (.nl acc) _
        unfold Rep
        exact ⟨D, avs, rfl, ⟨(hS2.exs D hm2).1, fun q => (mem_shut.mp q).2 rfl⟩, hD2, RepL.emb (emb_shut hm2) _ _ ra⟩
    · exact p3.elim
section
variable {X : Cx} {T : Tb} {W : WX} {elt tg iter c : Expr} {ifs : List Expr} {scope : Scope} {own : List (Str × Nat)} {pos spos : Pos} {g : TG} {di : EnP → Sto → Res (List PV)} {f : PV → EnP → Option EnP} {dt : EnP → Sto → Res Bool} {de : EnP → Sto → Res PV}
/-- a clause's tests -/
def CTs (X : Cx) (T : Tb) (ifs : List Expr) (dt : EnP → Sto → Res Bool) : Prop := ∃ tt : TT, PTs X ifs tt ∧ ∀ σ H Q, tb (gm X T) W0 dt σ H Q → tt σ H Q
theorem cts_nil : CTs X T [] dYes := ⟨_, pts_nil, fun σ H Q ⟨ρ, S, m, hE, hS, p⟩ => PostR.here (a := true) p hS rfl⟩
theorem cts_one (h : CT X T W0 c dt) : CTs X T [c] dt := ⟨_, pts_one h, fun σ H Q q => q⟩
/-- every block of this scope in X -/
abbrev InBlk (X : Cx) (scope : Scope) (P : Cx → Prop) : Prop := ∀ (s : Shared) (H : Hp) (C : Addr) (cl : List (Str × Addr)) (fp : List Addr), P (X.blk s H scope (compEnvC scope cl C X.env) fp)
theorem ce_lc (mt : Bool) (hb : mt = true → Bare (gm X T)) (hc : X.calm = true) (hN : X.N.Nodup) (hi : CI X T W tg iter di) (ok : BlkOk X.N X.env.scope scope own) (hg : InBlk X scope fun Y => PG Y tg g) (hf : TgC (gm X T) (own.map (·.2)) g f)
    (ht : InBlk X scope fun Y => PTs Y ifs (tb (gm X T) W0 dt)) (he : InBlk X scope fun Y => CE Y T W0 elt de) (hs : ∀ x, foldedSetIterable iter X.env x = pure x := by intro _; rfl) :
    CE X T W (.ListComp elt [⟨tg, iter, ifs, 0⟩] scope pos) (dLc mt di f dt de (own.map (·.2))) :=
  pe_imp (pe_lc hc hN hi ok hg ht (te := tv (gm X T) W0 de) he hs) fun σ H Q h => lc_sound mt hb (fun _ _ _ q => q) hf (fun _ _ _ q => q) (fun _ _ _ q => q) h
theorem pts_yes : PTs X [] (tb (gm X T) W0 dYes) := ⟨fun pins s σ H Q I ⟨ρ, S, m, hE, hS, p⟩ => pts_nil.run pins s σ H Q I (PostR.here (a := true) p hS rfl)⟩
/-- name = [..], on one line, the name a local -/
theorem cs_lc (mt : Bool) (hb : mt = true → Bare (gm X T)) {i : Nat} {y : Str} {py : Pos} (hc : X.calm = true) (hN : X.N.Nodup) (hy : X.N[i]? = some y) (hyl : X.env.scope.names.lookup y = some .local)
    (hsw : swapsWith (.ListComp elt [⟨tg, iter, ifs, 0⟩] scope pos) (some (.Name y py)) spos.line X.env = pure true) (hi : CI X T W tg iter di) (ok : BlkOk X.N X.env.scope scope own) (hg : InBlk X scope fun Y => PG Y tg g) (hf : TgC (gm X T) (own.map (·.2)) g f)
    (ht : InBlk X scope fun Y => PTs Y ifs (tb (gm X T) W0 dt)) (he : InBlk X scope fun Y => CE Y T W0 elt de) (hs : ∀ x, foldedSetIterable iter X.env x = pure x := by intro _; rfl) :
    CS X T W (.Assign [.Name y py] (.ListComp elt [⟨tg, iter, ifs, 0⟩] scope pos) spos) (dSet i (dLc mt di f dt de (own.map (·.2)))) :=
  ps_imp (ps_setLc hc hN hy hyl hsw hi ok hg ht (te := tv (gm X T) W0 de) he hs) fun D σ H ⟨ρ, S, m, hE, hS, p⟩ => by
    refine lc_sound (W := W) mt hb (fun _ _ _ q => q) hf (fun _ _ _ q => q) (fun _ _ _ q => q) ?_
    exact ts_bind (d := dLc mt di f dt de (own.map (·.2))) (k := fun v S1 => .nx (ρ.set i (some v)) S1) hE hS p fun v S1 m1 H1 w s1 hE1 hS1 hr p1 => p1.nx_here hS1 (hE1.set i hr)
end
end Mi
end
section
set_option Elab.async false
set_option linter.all false
set_option maxRecDepth 100000
set_option maxHeartbeats 2000000
namespace Mi
open PySem PySem.Spec PyProof.Rows L2

/-! ### defs and their calls -/
/-- what stands fast in a run -/
structure Wd where
  P : Program
  w : World
  K : PySem.W.Frag
  mg : Str → Option Value
  base : Heap
  T : Tb
abbrev Wd.g (Z : Wd) : Gm := ⟨Z.K, Z.mg, Z.T, none⟩
abbrev Wd.cx (Z : Wd) (N : List Str) (x : Str) (sc : Scope) (f : Addr) (cdv : Value) (A : Around) (outer : List Env) (s : Shared) (H : Hp) (E : XK) : Cx :=
  cxOf (L2.CX Z.P Z.w) Z.P Z.w Z.K Z.mg Z.base N x sc f cdv A outer s H E
abbrev wdOf (X : Cx) (T : Tb) : Wd := ⟨X.prog, X.w, X.K, X.mg, X.base, T⟩
def startP (n : Nat) (xs : List PV) : EnP := xs.map some ++ List.replicate (n - xs.length) none
def endOf : SR → Res PV
  | .nx _ S => .ok .non S
  | .rt v S => .ok v S
  | .exc c fs _ S => .exc c fs S
  | .bk _ _ => .bad
  | .ct _ _ => .bad
  | .bad => .bad
/-- a def by its body: n parameters, len names -/
def runF (n len : Nat) (d : EnP → Sto → SR) : List PV → Sto → Res PV := fun xs S => if xs.length = n then endOf (d (startP len xs) S) else .bad
/-- what the function object at f answers -/
def FA (Z : Wd) (k : Nat) (f : Addr) (F : List PV → Sto → Res PV) : Prop :=
  ∀ (A : Around) (outer : List Env) (s : Shared) (H : Hp) (us : List Value) (vs : List V) (xs : List PV) (S : Sto) (m : Mm) (Q : VK) (E : XK), Room k A → A.guards = some [] → Env0 Z.P Z.w Z.K Z.mg Z.base A outer s H → Vals vs us → RelS Z.g m S H → RepL Z.g m H xs vs →
    PostV Z.g (fun c d _ H => E c d H) [] m H Q (F xs S) → codeAny (model Z.P Z.w) A (.call (.ref f) ⟨us, []⟩) (CR (L2.CX Z.P Z.w) outer Z.P Z.w H s Q E) s
structure FC (Z : Wd) (k : Nat) (x : Str) (F : List PV → Sto → Res PV) : Prop where
  ex : ∃ f, Z.mg x = some (.ref f) ∧ PySem.W.keepIn Z.K (.ref f) = true ∧ FA Z k f F
theorem start_rel {g : Gm} {m : Mm} {H : Hp} {xs : List PV} {vs : List V} {N : List Str} (r : RepL g m H xs vs) : RelE g m H (startP N.length xs) (L2.start N vs) := by
  refine ⟨?_, fun i v e => ?_⟩
  · unfold startP L2.start
    rw [List.length_append, List.length_append, List.length_map, List.length_map, List.length_replicate, List.length_replicate, r.length]
  · unfold startP at e
    by_cases hi : i < xs.length
    · rw [List.getElem?_append_left (by rw [List.length_map]; exact hi), List.getElem?_map] at e
      cases ex : xs[i]? with
      | none => rw [ex] at e; cases e
      | some y =>
        rw [ex] at e
        cases e
        obtain ⟨w, e1, e2⟩ := r.get ex
        refine ⟨w, ?_, e2⟩
        unfold L2.start
        rw [List.getElem?_append_left (by rw [List.length_map, ← r.length]; exact hi), List.getElem?_map, e1]
        rfl
    · rw [List.getElem?_append_right (by rw [List.length_map]; omega), List.getElem?_replicate] at e
      split at e <;> cases e
theorem endOf_post {g : Gm} {W : WX} {m : Mm} {H : Hp} {Q : VK} {r : SR} {σ : L2.St} (hW : ∀ c d σ σ' H, W c d σ H → W c d σ' H) (p : PostV g W σ m H Q (endOf r)) : PostS g W { nx := fun _ H' => Q .non H', rt := Q } m H r := by
  cases r with
  | nx ρ S => exact fun m' H' σ' s h1 h2 => p m' H' .non s h1 mk_non
  | rt v S => exact fun m' H' w s h1 h2 => p m' H' w s h1 h2
  | exc c fs ρ S => exact fun m' H' σ' cls dd s h1 h2 h3 => hW _ _ _ _ _ (p m' H' cls dd s h1 h3)
  | _ => exact p.elim
/-- a def as it stands, with its code object -/
structure FunC (K : PySem.W.Frag) (x : Str) (st : Stmt) (f : Addr) (cdv : Value) : Prop where
  ex : ∃ (oc : Value) (od : Option Addr) (kV doc pm : Value) (an : Option Addr) (ct : Value) (osl : Array (Option Value)),
    K.lookup f = some ⟨oc, od, .func (PySem.W.fnOf x x (defArgs st) (defBody st) (defScope st) .none kV doc pm an cdv ct), osl⟩
  cd : PySem.W.codeIn K cdv x = true
/-- how its arguments are bound -/
abbrev BindC (x : Str) (st : Stmt) (ps : List Str) : Prop := ∀ (kV doc pm : Value) (an : Option Addr) (cdv ct : Value) (us : List Value), us.length = ps.length → bindArgs (PySem.W.fnOf x x (defArgs st) (defBody st) (defScope st) .none kV doc pm an cdv ct) ⟨us, []⟩ = pure (ps.zip us)
theorem run_body {Z : Wd} {k : Nat} {x : Str} {st : Stmt} {f : Addr} {cdv : Value} {N ps : List Str} {t : TS} (F : FunC Z.K x st f cdv) (Sc : FnScope N ps (defScope st)) (hb : BindC x st ps)
    {A : Around} {outer : List Env} {s : Shared} {H : Hp} {us : List Value} {vs : List V} {Q : VK} {E : XK} (hr : Room (k + 1) A) (e0 : Env0 Z.P Z.w Z.K Z.mg Z.base A outer s H) (rv : Vals vs us) (hul : us.length = ps.length)
    (body : PSs (Z.cx N x (defScope st) f cdv A outer s H E) (defBody st) t) (hp : t { nx := fun _ H' => Q .non H', rt := Q } (L2.start N vs) H) :
    codeAny (model Z.P Z.w) A (.call (.ref f) ⟨us, []⟩) (CR (L2.CX Z.P Z.w) outer Z.P Z.w H s Q E) s := by
  obtain ⟨oc, od, kV, doc, pm, an, ct, osl, lk⟩ := F.ex
  have KX : Z.K.In s.heap := e0.mod.kin.keeps fun b o e => (e0.bs b o e).1
  have hvl : vs.length = ps.length := by rw [rv.length]; exact hul
  have places : ∀ y ∈ ps.zip us, (defScope st).names.lookup y.1 = some .local ∨ ((defScope st).names.lookup y.1 = some .cell ∧ ((cellsFrom (s.heap.objs.size + 1) (defScope st).names []).lookup y.1).isSome = true) := fun y hy => by
    rcases Sc.par y.1 (List.of_mem_zip (a := y.1) (b := y.2) hy).1 with q | q
    · exact .inl q
    · exact .inr ⟨q, PySem.W.cellsFrom_some _ _ _ (.inl q)⟩
  refine codeAny_call_cells hr.depth (KX _ _ lk) rfl (e0.mod.nolimit.keeps fun b o e => (e0.bs b o e).1) (PySem.W.codeRec_of KX F.cd) rfl (hb kV doc pm an cdv ct us hul) rfl places (fun s₁ ic => ?_) Sc.co Sc.gen Sc.kind
  have J : Inv (Z.cx N x (defScope st) f cdv A outer s H E) [] (L2.start N vs) H s₁ := inv_start Sc hr.hd e0 hvl rv ic
  refine wpAny_mono (body.run [] s₁ _ H _ J hp) (fun fl s' hs => ?_) fun _ _ hs => hs
  cases fl with
  | next => obtain ⟨σ', H', J', q⟩ := hs; exact ⟨.non, H', J'.os, J'.bare, J'.base, J'.hok, rfl, q⟩
  | ret u => obtain ⟨v, σ', H', J', r, q⟩ := hs; exact ⟨v, H', J'.os, J'.bare, J'.base, J'.hok, r, q⟩
  | brk => obtain ⟨_, _, _, q⟩ := hs; exact q.elim
  | cont => obtain ⟨_, _, _, q⟩ := hs; exact q.elim
theorem fa_of {Z : Wd} {k : Nat} {x : Str} {st : Stmt} {f : Addr} {cdv : Value} {N ps : List Str} {d : EnP → Sto → SR} (F : FunC Z.K x st f cdv) (Sc : FnScope N ps (defScope st)) (hb : BindC x st ps)
    (body : ∀ (A : Around) (outer : List Env) (s : Shared) (H : Hp) (E : XK), Room k (A.deeper (envOfC x (defScope st) s.heap.objs.size f cdv)) → A.guards = some [] → CSs (Z.cx N x (defScope st) f cdv A outer s H E) Z.T (fun c d _ H => E c d H) (defBody st) d) :
    FA Z (k + 1) f (runF ps.length N.length d) := by
  intro A outer s H us vs xs S m Q E hr hgd e0 rv hS rx p
  unfold runF at p
  split at p
  case isFalse => exact p.elim
  rename_i hl
  have hul : us.length = ps.length := by rw [← rv.length, ← rx.length]; exact hl
  have eg : Z.g = gm (Z.cx N x (defScope st) f cdv A outer s H E) Z.T := congrArg (Gm.mk Z.K Z.mg Z.T) hr.hd.symm
  rw [eg] at hS rx p
  exact run_body F Sc hb hr e0 rv hul (body A outer s H E (hr.deeper _) hgd) ⟨_, S, m, start_rel rx, hS, endOf_post (fun _ _ _ _ _ h => h) p⟩
theorem gm_none {X : Cx} {T : Tb} (h : X.A.handled = none) : gm X T = (wdOf X T).g := by
  show Gm.mk _ _ _ X.A.handled = _
  rw [h]
theorem FA.mono {Z : Wd} {j k : Nat} {f : Addr} {F : List PV → Sto → Res PV} (h : FA Z j f F) (hjk : j ≤ k) : FA Z k f F := fun A outer s H us vs xs S m Q E hr => h A outer s H us vs xs S m Q E (hr.mono hjk)
theorem FA.call {X : Cx} {T : Tb} {W : WX} {k : Nat} {f : Addr} {F : List PV → Sto → Res PV} (c : FA (wdOf X T) k f F) (hr : Room k X.A) (hgd : X.A.guards = some []) (tk : Takes X W) {pins : List (Addr × Obj)} {σ : L2.St} {H : Hp} {s : Shared} {Q : VK} {us : List Value} {vs : List V} {xs : List PV} {S : Sto} {m : Mm}
    (I : Inv X pins σ H s) (rv : Vals vs us) (hS : RelS (gm X T) m S H) (rx : RepL (gm X T) m H xs vs) (p : PostV (gm X T) W σ m H Q (F xs S)) : wpAny (model X.prog X.w) X.A (call (.ref f) us) (EP X pins σ Q) X.xe s := by
  rw [gm_none hr.hd] at hS rx p
  have p2 : PostV (wdOf X T).g (fun c d _ H => W c d σ H) [] m H Q (F xs S) := by
    cases e : F xs S with
    | ok a S1 => rw [e] at p; exact p
    | exc c fs S1 => rw [e] at p; exact p
    | bad => rw [e] at p; exact p
  refine wpAny_call (codeAny_mono (c X.A X.stack s H us vs xs S m Q (fun c d H => W c d σ H) hr hgd I.env0 rv hS rx p2) fun r s' hq => ?_)
  cases r with
  | error e => exact tk e s' (XE.of_call I (fun _ _ _ h => h) hq)
  | ok fl =>
    cases fl with
    | ret u => exact I.after hq
    | _ => exact False.elim hq
section
variable {X : Cx} {T : Tb} {W : WX} {j k : Nat} {x : Str} {p pos : Pos} {e : Expr} {es : List Expr} {F : List PV → Sto → Res PV} {dl : EnP → Sto → Res (List PV)}
theorem ce_call (c : FC (wdOf X T) j x F) (C : Ctx X k W) (hjk : j ≤ k) (hg : Gl X x) (ha : CA X T W (e :: es) dl) (hdb : (x == ("__debug__" : Str)) = false := by decide)
    (he : starEach (e :: es) X.env = (false, eval e X.env) :: starEach es X.env := by rfl) (hpl : (backTo pos (starEach es X.env)).any (·.1) = false := by rfl) : CE X T W (.Call (.Name x p) (e :: es) [] pos) (dCB F dl) := by
  obtain ⟨f, hm, hk, fa⟩ := c.ex
  refine ⟨fun pins s σ H Q I h => ?_⟩
  obtain ⟨ρ, S, m, hE, hS, q⟩ := h
  refine wpAny_Call_Name_kw (ld_glob I hg hm ?_ hdb)
  refine PySem.W.callWith_K (h₀ := X.base) I.ok.mod.kin hk (thn (ha.run pos pins s σ H (fun vs H1 => ∃ xs S1 m1, RelS (gm X T) m1 S1 H1 ∧ RepL (gm X T) m1 H1 xs vs ∧ PostV (gm X T) W σ m1 H1 Q (F xs S1)) I ?_) fun us s1 ⟨vs, H1, I1, r, xs, S1, m1, a1, a2, a3⟩ => ⟨I1.kIn, ?_⟩) he hpl
  · exact tr_bind (f := fun xs _ S1 => F xs S1) hE hS q fun xs S1 m1 H1 ws s1 hE1 hS1 hr1 p1 => ⟨xs, S1, m1, hS1, hr1, p1⟩
  · exact (fa.mono hjk).call C.room C.gd C.tk I1 r a1 a2 a3
theorem ce_call0 (c : FC (wdOf X T) j x F) (C : Ctx X k W) (hjk : j ≤ k) (hg : Gl X x) (hdb : (x == ("__debug__" : Str)) = false := by decide) : CE X T W (.Call (.Name x p) [] [] pos) (dCB F dNil) := by
  obtain ⟨f, hm, hk, fa⟩ := c.ex
  refine ⟨fun pins s σ H Q I h => ?_⟩
  obtain ⟨ρ, S, m, hE, hS, q⟩ := h
  refine wpAny_Call_Name_kw (ld_glob I hg hm ?_ hdb)
  exact PySem.W.callWith_K0 I.kIn hk ((fa.mono hjk).call C.room C.gd C.tk I .nil hS RepL.nil q)
/-- the context of a def's body -/
theorem ctx_of {Z : Wd} {N : List Str} {sc : Scope} {f : Addr} {cdv : Value} {A : Around} {outer : List Env} {s : Shared} {H : Hp} {E : XK} (hr : Room k (A.deeper (envOfC x sc s.heap.objs.size f cdv))) (hg : A.guards = some []) : Ctx (Z.cx N x sc f cdv A outer s H E) k (fun c d _ H => E c d H) :=
  ⟨hr, hg, rfl, takes_of rfl rfl rfl rfl, passes_of rfl⟩
/-- the context of a comprehension's block -/
theorem Ctx.blk (C : Ctx X k W) {s : Shared} {H : Hp} {scope : Scope} {cenv : Env} {fp : List Addr} : Ctx (X.blk s H scope cenv fp) k W0 := ⟨C.room, C.gd, C.calm, takes0, PassesOwn.never⟩
end
end Mi
end
section
set_option Elab.async false
set_option linter.all false
set_option maxRecDepth 100000
set_option maxHeartbeats 2000000
namespace Mi
open PySem PySem.Spec PyProof.Rows L2

/-! ### own errors -/
abbrev veMro : List Value := [.type "ValueError", .type "Exception", .type "BaseException", .type "object"]
/-- an own error without fields, a ValueError -/
structure EC (K : PySem.W.Frag) (mg : Str → Option Value) (x : Str) : Prop where
  ex : ∃ C, mg x = some (.ref C) ∧ PySem.W.keepIn K (.ref C) = true ∧ PySem.W.excIn K C veMro "ValueError.__new__" = true ∧
    PySem.W.subIn K (.ref C) (.type "BaseException") = some true ∧ PySem.W.typeIn K (.ref C) = some (.type "type") ∧ ExcC K C
section
variable {X : Cx} {C : Addr} {bmB : List Value} {B newId initId : String}
/-- X() -/
theorem pmk_own0 {x : Str} {p pos : Pos} (F : ExcBaseFacts B newId initId bmB) (q : PySem.W.excIn X.K C bmB newId = true) (gC : X.mg x = some (.ref C)) (kC : PySem.W.keepIn X.K (.ref C) = true) (r : Raises X (.ref C)) (hg : Gl X x)
    (hdb : (x == ("__debug__" : Str)) = false := by decide) : PMk X (.Call (.Name x p) [] [] pos) (fun _ H Q => Q (.ref C) none H) := fun pins s σ H Q I h => by
  refine wpAny_Call_Name_kw (ld_glob I hg gC (PySem.W.callWith_K0 I.kIn kC ?_) hdb)
  obtain ⟨bm, N, nm, qn, bs, hdct, sn, sub, ab, col, dd, k0, k1, k2, k3, k5, mN, hC, hN, hni, T⟩ := exc_obj I.kIn q
  exact wpAny_call_exc_subT F T hC hN hni (fun h' e hm => mk_of I hm r h (I.hok.gone hm.new)) (Nat.zero_le _)
end
def dRaise (x : Str) : EnP → Sto → SR := fun ρ S => .exc x [] ρ S
theorem cs_raise0 {X : Cx} {T : Tb} {W : WX} {x : Str} {p pos pos2 : Pos} (e : EC X.K X.mg x) (hc : X.calm = true) (tk : Takes X W) (hg : Gl X x) (hdb : (x == ("__debug__" : Str)) = false := by decide) :
    CS X T W (.Raise (some (.Call (.Name x p) [] [] pos)) none pos2) (dRaise x) := by
  obtain ⟨C, h1, h2, h3, h4, h5, _⟩ := e.ex
  refine ps_imp (ps_raise hc tk (pmk_own0 PySem.F.excBase_ValueError h3 h1 h2 (raises_own h4 h5) hg hdb)) fun D σ H ⟨ρ, S, m, hE, hS, p⟩ => ?_
  exact p m H σ (.ref C) none (Step.refl m H) hS hE ⟨C, h1, rfl, fun _ => rfl, fun n => absurd rfl n⟩

/-! ### try: body, except x as n: suite (the suite looks at the error, and returns a flat value) -/
def errEnv (n i : Nat) : EnP := (List.replicate n none).set i (some .err)
def tryEnd (ρ1 : EnP) (c : Str) (fs : List (Str × PV)) (S1 : Sto) : Option Bool → SR → SR
  | some true, .rt v S2 => if flatP v = true then .rt v S1 else .bad
  | some true, _ => .bad
  | some false, _ => .exc c fs ρ1 S1
  | none, _ => .bad
def dTry (i : Nat) (cat : Str → Option Bool) (db : EnP → Sto → SR) (ds : Str → List (Str × PV) → EnP → Sto → SR) : EnP → Sto → SR := fun ρ S => match db ρ S with
  | .exc c fs ρ1 S1 => tryEnd ρ1 c fs S1 (cat c) (ds c fs (errEnv ρ1.length i) [])
  | r => r
/-- under an error -/
abbrev Tb.err (T : Tb) (d : Option Addr) : Tb := ⟨T.tabs, T.lm, d⟩
abbrev gE (X : Cx) (T : Tb) (a : Addr) (d : Option Addr) : Gm := ⟨X.K, X.mg, T.err d, some (.ref a)⟩
theorem flat_any {g g' : Gm} {m m' : Mm} {H H' : Hp} {x : PV} {v : V} (h : flatP x = true) (r : Rep g m H x v) : Rep g' m' H' x v := by
  cases x with
  | non => rw [rep_non r]; exact mk_non
  | bl b => rw [rep_bl r]; exact mk_bl b
  | int i => rw [rep_int r]; exact mk_int i
  | str s => rw [rep_str r]; exact mk_str s
  | _ => cases h
theorem step_hid {m m2 : Mm} {H H2 : Hp} {l : List Addr} (s : Step ⟨[], l⟩ H m2 H2) : Step m H m H2 :=
  ⟨⟨[], by simp⟩, fun _ h => h, fun a h1 h2 => absurd h1 h2, fun a h1 h2 => absurd h1 h2, fun a o _ e n => s.keep a o (by simp) e n, s.tup, s.frz⟩
theorem relS_hid {g : Gm} {m m2 : Mm} {S : Sto} {H H2 : Hp} {l : List Addr} (h : RelS g m S H) (s : Step ⟨[], l⟩ H m2 H2) (t : LamX.Tabs g.T.tabs H2) : RelS g m S H2 :=
  ⟨h.len, h.nd, fun a ha => ⟨(h.exs a ha).1, (h.exs a ha).2.imp fun vs e => ⟨s.keep a _ (by simp) e.1 e.2.nt, e.2⟩⟩, fun n xs e => by
    obtain ⟨a, vs, e1, e2, e3⟩ := h.at_ n xs e
    exact ⟨a, vs, e1, s.keep a _ (by simp) e2 e3.tr.nt, RSO.step (step_hid s) e3⟩, t⟩
theorem relS_none {g g' : Gm} {m : Mm} {S : Sto} {H : Hp} (h : RelS g m S H) (et : g'.T.tabs = g.T.tabs) : RelS g' ⟨[], m.ix ++ m.ex⟩ [] H :=
  ⟨rfl, List.nodup_nil, fun a ha => ⟨by simp, by
    rcases List.mem_append.mp ha with z | z
    · exact h.tracked z
    · exact (h.exs a z).2⟩, fun n xs e => by simp at e, by rw [et]; exact h.tab⟩
section
variable {X : Cx} {T : Tb} {W : WX} {x n : Str} {c : Value} {i : Nat} {body suite : List Stmt} {b₀ : Stmt} {np pos pos' : Pos} {db : EnP → Sto → SR} {ds : Str → List (Str × PV) → EnP → Sto → SR} {cat : Str → Option Bool}
theorem cs_try (hs : X.stack = X.env :: X.outer) (hf : X.env.frame = some X.env.locals) (hN : X.N.Nodup) (hi : X.N[i]? = some n) (hln : X.env.kindOf n = some .local) (hc : Names X x c) (tk : Takes X W)
    (hcat : ∀ c' b, cat c' = some b → ∀ C, X.mg c' = some (.ref C) → PySem.W.exmOne X.K (.ref C) c = some b)
    (hb : ∀ (W : WX) (pn : List (Addr × Obj)) (xe : Value → Shared → Prop), Takes (X.tr pn xe) W → PassesOwn (model X.prog X.w) X.A X.env xe → CSs (X.tr pn xe) T W body db)
    (hsu : ∀ (c' : Str) (fs : List (Str × PV)) (C a : Addr) (oe : Obj) (d : Option Addr) (pn : List (Addr × Obj)), X.mg c' = some (.ref C) → (fs = [] → d = none) → Zc (.ref C) d oe → (∃ vs, oe.data = .fields vs) → CSs (X.suite a ((a, oe) :: pn)) (T.err d) W0 (b₀ :: suite) (ds c' fs)) :
    CS X T W (.Try body [.ExceptHandler (some (.Name x np)) (some n) (b₀ :: suite) pos'] [] [] pos) (dTry i cat db ds) := by
  refine ps_imp (ps_try_as (tb := fun W => ts (gm X T) W db) (ts := fun a cls d D σ H => ∃ c' fs C, cls = .ref C ∧ X.mg c' = some (.ref C) ∧ (fs = [] → d = none) ∧ ts (gE X T a d) W0 (ds c' fs) D σ H) (Wout := W) hs hf hN hi hln hc tk hb fun a oe cls d pn hz hv => ?_) fun D σ H ⟨ρ, S, m, hE, hS, p⟩ => ⟨ρ, S, m, hE, hS, ?_⟩
  · refine ⟨fun pins s σ H D I h => ?_⟩
    obtain ⟨c', fs, C, rfl, e1, e2, h⟩ := h
    exact (hsu c' fs C a oe d pn e1 e2 hz hv).run pins s σ H D I h
  · unfold dTry at p
    cases hd : db ρ S with
    | exc c' fs ρ1 S1 =>
      simp only [hd] at p
      intro m' H' σ' cls dd s hS' hE' hx
      obtain ⟨C, e1, rfl, e2, e4⟩ := hx
      cases hcb : cat c' with
      | none => simp only [hcb] at p; exact p.elim
      | some b =>
        refine ⟨b, hcat c' b hcb C e1, fun eb a na => ?_, fun eb => ?_⟩
        · subst eb
          rw [hcb] at p
          cases hds : ds c' fs (errEnv ρ1.length i) [] with
          | rt v S2 =>
            rw [hds] at p
            have pq : PostS (gm X T) W D m H (if flatP v = true then .rt v S1 else .bad) := p
            by_cases hv : flatP v = true
            · rw [if_pos hv] at pq
              have v1 := hv
              refine ⟨c', fs, C, rfl, e1, e2, errEnv ρ1.length i, [], ⟨[], m'.ix ++ m'.ex⟩, ⟨?_, fun j u ej => ?_⟩, relS_none hS' rfl, ?_⟩
              · unfold errEnv
                rw [List.length_set, List.length_replicate, List.length_set, hE'.len]
              · unfold errEnv at ej
                by_cases hj : i = j
                · subst hj
                  by_cases hl : i < ρ1.length
                  · rw [List.getElem?_set_self (by rw [List.length_replicate]; exact hl)] at ej
                    cases ej
                    refine ⟨.ref a, by rw [List.getElem?_set_self (by rw [← hE'.len]; exact hl)], ?_⟩
                    unfold Rep
                    refine ⟨a, rfl, rfl, fun d ed => ?_⟩
                    have ed : dd = some d := ed
                    by_cases fe : fs = []
                    · rw [e2 fe] at ed; cases ed
                    · obtain ⟨d', ws, q1, q2, _⟩ := e4 fe
                      rw [ed] at q1
                      cases q1
                      refine ⟨⟨by simp, fun z => ?_⟩, ws, q2⟩
                      rcases List.mem_append.mp z with y | y
                      · obtain ⟨u, e, t⟩ := hS'.tracked y
                        rw [q2] at e; cases e
                        rcases t with ⟨_, t⟩ | ⟨_, t⟩ | ⟨_, _, t⟩ <;> cases t
                      · obtain ⟨u, e, t⟩ := (hS'.exs d y).2
                        rw [q2] at e; cases e
                        rcases t with ⟨_, t⟩ | ⟨_, t⟩ | ⟨_, _, t⟩ <;> cases t
                  · rw [List.getElem?_eq_none (by rw [List.length_set, List.length_replicate]; omega)] at ej; cases ej
                · rw [List.getElem?_set_ne hj, List.getElem?_replicate] at ej
                  split at ej <;> cases ej
              · rw [hds]
                intro m2 H2 w s2 hS2 hr
                have t2 : LamX.Tabs T.tabs H2 := hS2.tab
                exact pq m' H2 w (s.trans (step_hid s2)) (relS_hid hS' s2 t2) (flat_any v1 hr)
            · rw [if_neg hv] at pq; exact pq.elim
          | _ => rw [hds] at p; exact p.elim
        · subst eb
          rw [hcb] at p
          have p2 : PostS (gm X T) W D m H (.exc c' fs ρ1 S1) := by
            cases hds : ds c' fs (errEnv ρ1.length i) [] <;> (rw [hds] at p; exact p)
          exact p2 m' H' σ' (.ref C) dd s hS' hE' ⟨C, e1, rfl, e2, by assumption⟩
    | _ => simp only [hd] at p; exact p
/-- isinstance(error, C) in a suite -/
def fIsE (isT : PV → Option Bool) : List PV → Sto → Res PV
  | [.err, t], S => match isT t with
    | some b => .ok (.bl b) S
    | none => .bad
  | _, _ => .bad
/-- what the classes say: c's errors are of the type t -/
def IsT (K : PySem.W.Frag) (mg : Str → Option Value) (C : Addr) (isT : PV → Option Bool) : Prop :=
  (∀ x b, isT (.glb x) = some b → ∀ D, mg x = some (.ref D) → PySem.W.kitOne K (.ref C) (.ref D) = some b) ∧ (∀ n b, isT (.ty n) = some b → PySem.W.kitOne K (.ref C) (.type n) = some b) ∧
    ∀ t, (∀ x, t ≠ .glb x) → (∀ n, t ≠ .ty n) → isT t = none
theorem sl_isE {a D : Addr} {pn : List (Addr × Obj)} {isT : PV → Option Bool} (ht : IsT X.K X.mg D isT) : SndL (gm (X.suite a pn) T) (rIsE X.K D a) (fIsE isT) := by
  intro W σ m S H xs vs Q hS r p
  unfold fIsE at p
  split at p
  · rename_i t
    obtain ⟨v, u, rfl, r1, r2⟩ := two_rep r
    unfold Rep at r1
    obtain ⟨a', e1, rfl, _⟩ := r1
    have e1 : some (Value.ref a) = some (.ref a') := e1
    cases e1
    split at p
    · rename_i b eb
      cases t with
      | glb x =>
        unfold Rep at r2
        obtain ⟨Dx, e2, rfl⟩ := r2
        exact ⟨.ref Dx, .ref Dx, b, rfl, fun u hu => hu, ht.1 x b eb Dx e2, p.here hS (mk_bl b)⟩
      | ty n =>
        cases rep_ty r2
        exact ⟨.ty n, .type n, b, rfl, fun u hu => hu, ht.2.1 n b eb, p.here hS (mk_bl b)⟩
      | _ => rw [ht.2.2 _ (fun x z => by cases z) (fun n z => by cases z)] at eb; cases eb
    · exact p.elim
  · exact p.elim
/-- isinstance(error, C) in a suite, the error with fields -/
def rIsEd (K : PySem.W.Frag) (D a dx : Addr) : List V → Hp → VK → Prop := fun vs G R => ∃ (c : V) (u : Value) (ans : Bool), vs = [.ref a, c] ∧ (∀ z, RelV c z → z = u) ∧ PySem.W.kitOne K (.ref D) u = some ans ∧ (∃ ws, G dx = some (.xd ws)) ∧ R (.bl ans) G
theorem call_isEd {X : Cx} {a D dx : Addr} {oe : Obj} {pn : List (Addr × Obj)} (hD : ExcC X.K D) (hz : Zc (.ref D) (some dx) oe) (hf : ∃ vs, oe.data = .fields vs) : CallR (X.suite a ((a, oe) :: pn)) (.builtin "isinstance") (rIsEd X.K D a dx) := by
  intro pz sz σz G vs us R J rv hh
  obtain ⟨c, u, ans, rfl, hu, e1, ⟨ws, hw⟩, q⟩ := hh
  cases rv with
  | cons r1 rs =>
    cases rs with
    | cons r2 rs =>
      cases rs
      cases r1
      cases hu _ r2
      obtain ⟨at_, _⟩ := J.pin (a, oe) (List.mem_append_left _ (List.mem_cons_self))
      obtain ⟨mA, ⟨od, es, ep, ho, _⟩, _⟩ := J.hok dx _ hw
      obtain ⟨fs, hfs⟩ := hf
      obtain ⟨oc, odi, oda, osl⟩ := oe
      obtain ⟨z1, z2⟩ := hz
      dsimp only at z1 z2 hfs
      subst z1 z2 hfs
      have ia : PySem.W.InstAt sz.heap a _ D (some od) := ⟨at_, rfl, rfl, ho⟩
      have cls : (PySem.W.clsIn X.K D).isSome = true := by
        obtain ⟨cd, hc, _⟩ := PySem.W.any_some hD.hd
        rw [hc]; rfl
      exact PySem.W.kia_one (PySem.W.kitx_exc cls hD.hg hD.hk hD.hs hD.ha hD.hn hD.ht hD.hm) J.kIn ia e1 (by intro z; cases z) fun tk => ⟨.bl ans, G, J.kept (t' := tk) (by intro _ _ z; exact z), rfl, q⟩
theorem sl_isEd {a D dx : Addr} {pn : List (Addr × Obj)} {isT : PV → Option Bool} (he : T.ed = some dx) (ht : IsT X.K X.mg D isT) : SndL (gm (X.suite a pn) T) (rIsEd X.K D a dx) (fIsE isT) := by
  intro W σ m S H xs vs Q hS r p
  unfold fIsE at p
  split at p
  · rename_i t
    obtain ⟨v, u, rfl, r1, r2⟩ := two_rep r
    unfold Rep at r1
    obtain ⟨a', e1, rfl, r3⟩ := r1
    obtain ⟨_, hd⟩ := r3 dx he
    have e1 : some (Value.ref a) = some (.ref a') := e1
    cases e1
    split at p
    · rename_i b eb
      cases t with
      | glb x =>
        unfold Rep at r2
        obtain ⟨Dx, e2, rfl⟩ := r2
        exact ⟨.ref Dx, .ref Dx, b, rfl, fun u hu => hu, ht.1 x b eb Dx e2, hd, p.here hS (mk_bl b)⟩
      | ty n =>
        cases rep_ty r2
        exact ⟨.ty n, .type n, b, rfl, fun u hu => hu, ht.2.1 n b eb, hd, p.here hS (mk_bl b)⟩
      | _ => rw [ht.2.2 _ (fun x z => by cases z) (fun n z => by cases z)] at eb; cases eb
    · exact p.elim
  · exact p.elim
end

/-! ### l.count(x) of plain data -/
def fCount (x y : PV) (S : Sto) : Res PV := match toDS x S, toD y with
  | some (.list ds), some d => if PyData.plainAll ds = true ∧ d.plain = true ∧ d.depth ≤ 9 then .ok (.int ((ds.countP fun z => PyData.eqv z d : Nat) : Int)) S else .bad
  | _, _ => .bad
def rCountD (K : PySem.W.Frag) : V → List V → Hp → VK → Prop := fun x xs H Q => ∃ (a : Addr) (y : V) (d : PyData) (ds : List PyData), x = V.ref a ∧ xs = [y] ∧ Dp K H (V.ref a) (.list ds) ∧ Dp K H y d ∧
  PyData.plainAll ds = true ∧ d.plain = true ∧ d.depth ≤ 9 ∧ Q (.int ((ds.countP fun z => PyData.eqv z d : Nat) : Int)) H
theorem mt_countD {X : Cx} (hu : X.A.units + 65 < cLine) : MtR X "list.count" (rCountD X.K) := by
  intro pins s σ H x xs v us Q I rx rxs h
  obtain ⟨a, y, d, ds, rfl, rfl, hl, hy, h1, h2, h3, q⟩ := h
  cases rx
  cases rxs with
  | cons ry rt =>
    cases rt
    obtain ⟨bs, r1⟩ := Dp.reads I d y _ hy ry
    cases hl with
    | lst hs ha =>
      obtain ⟨its, rv, pl, hlen⟩ := I.list hs
      obtain ⟨as, h4⟩ := Dp.readsAll I ds _ its ha rv
      exact SeqAt.count_list_data pl.isList (by simpa using h4) r1 h1 h2 (by omega) ⟨.int _, H, I.tok _, ⟨_, rfl⟩, q⟩
def count1 (x : PV) (S : Sto) : List PV → Res PV
  | [y] => fCount x y S
  | _ => .bad
def dCount (d : EnP → Sto → Res PV) (dl : EnP → Sto → Res (List PV)) : EnP → Sto → Res PV := fun ρ S => (d ρ S).bind fun x S1 => if (lstOf x S1).isSome = true then (dl ρ S1).bind fun ys S2 => count1 x S2 ys else .bad
theorem type_list_count : typeOf (.builtin "list.count") = pure (.type "method_descriptor") := by show builtinType "list.count" = _; first | rfl | kernel_rfl
section
variable {X : Cx} {T : Tb} {W : WX} {o e : Expr} {es : List Expr} {d : EnP → Sto → Res PV} {dl : EnP → Sto → Res (List PV)} {apos cpos : Pos}
theorem ce_count (hu : X.A.units + 65 < cLine) (ho : CE X T W o d) (ha : CA X T W (e :: es) dl)
    (hbase : attributeBase o "count" X.env (eval o X.env) = eval o X.env := by rfl)
    (hfew : ((backTo cpos (starEach (e :: es) X.env)).all (fun x => !x.1) && (backToKw cpos (keywordEach [] X.env)).all (fun x => x.1.isSome)
      && decide ((e :: es).length + ([] : List Keyword).length + (if ([] : List Keyword).isEmpty then 0 else 1) < 30)) = true := by rfl)
    (hline : (apos.endLine == cpos.line) = true := by rfl) (hs : starEach (e :: es) X.env = (false, eval e X.env) :: starEach es X.env := by rfl) (hplain : (backTo cpos (starEach es X.env)).any (·.1) = false := by rfl) :
    CE X T W (.Call (.Attribute o "count" apos) (e :: es) [] cpos) (dCount d dl) :=
  pe_imp (pe_bm PySem.F.plainAttrs_list PySem.F.slot_list_count type_list_count (mt_countD hu) ho ha hbase hfew hline hs hplain) fun σ H Q ⟨ρ, S, m, hE, hS, p⟩ =>
    tr_bind (f := fun (x : PV) (ρ : EnP) (S1 : Sto) => if (lstOf x S1).isSome = true then (dl ρ S1).bind fun ys S2 => count1 x S2 ys else .bad) hE hS p fun x S1 m1 H1 w s1 hE1 hS1 hr1 p1 => by
      cases e0 : lstOf x S1 with
      | none => rw [e0] at p1; exact p1.elim
      | some xs0 =>
        rw [e0, if_pos (show (some xs0).isSome = true from rfl)] at p1
        obtain ⟨a, vs0, rfl, f1, _⟩ := lstOf_rep hS1 hr1 e0
        refine ⟨.inl ⟨rfl, vs0, f1⟩, tr_bind (f := fun (ys : List PV) (_ : EnP) (S2 : Sto) => count1 x S2 ys) hE1 hS1 p1 fun ys S2 m2 H2 ws s2 hE2 hS2 hr2 p2 => ?_⟩
        unfold count1 at p2
        split at p2
        · rename_i y
          obtain ⟨u, rfl, ru⟩ := one_rep hr2
          unfold fCount at p2
          split at p2
          · rename_i ds dd h1 h2
            split at p2
            · rename_i h
              exact ⟨a, u, dd, ds, rfl, rfl, dpS_of hS2 (hr1.step s2) h1, dp_of y u dd ru h2, h.1, h.2.1, h.2.2, p2.here hS2 (mk_int _)⟩
            · exact p2.elim
          · exact p2.elim
        · exact p2.elim
end
end Mi
end
section
set_option Elab.async false
set_option linter.all false
set_option maxRecDepth 100000
set_option maxHeartbeats 2000000
namespace Mi
open PySem PySem.Spec PyProof.Rows L2

/-! ### a lambda without parameters, handed to a def -/
theorem gm_bare {X : Cx} {T : Tb} (h : X.A.handled = none) (ht : T.lm = none) : Bare (gm X T) := by
  show Gm.mk X.K X.mg ⟨T.tabs, none, T.ed⟩ none = Gm.mk X.K X.mg T X.A.handled
  rw [h, ← ht]
/-- what stays while it may be called: its names' values, its code -/
def lamI (g : Gm) (f c' : Addr) (q : Str) (ρ : EnP) (σ : L2.St) : LmI :=
  ⟨f, fun m H => RelE g m H ρ σ ∧ m.no c' ∧ H c' = some (LamX.CodeO c' q), fun m H m' H' e ⟨h1, h2, h3⟩ => by
    obtain ⟨k1, k2⟩ := e.keep c' _ h2 h3 (fun ps z => LamX.codeO_ne ps z) (fun k z => by unfold LamX.CodeO at z; cases z)
    exact ⟨h1.emw e, k1, k2⟩⟩
def dAct (i : Nat) (C : Sto → Res PV) : EnP → Sto → Res PV := fun ρ S => match ρ[i]? with
  | some (some .lam) => C S
  | _ => .bad
theorem relS_as {g g' : Gm} {m : Mm} {S : Sto} {H : Hp} (e : g.bare = g'.bare) (h : RelS g m S H) : RelS g' m S H :=
  ⟨h.len, h.nd, h.exs, fun n xs q => by rw [← e]; exact h.at_ n xs q, by have := congrArg (fun z : Gm => z.T.tabs) e; exact this ▸ h.tab⟩
theorem repF_up {g : Gm} {m : Mm} {H : Hp} : ∀ {fs : List (Str × PV)} {ws : List (Str × V)}, RepF g.bare m H fs ws → RepF g m H fs ws
  | [], _, h => h
  | (f, x) :: r, _, h => by
    unfold RepF at h ⊢
    obtain ⟨v, us, e, h1, h2⟩ := h
    exact ⟨v, us, e, Rep.up x v h1, repF_up h2⟩
theorem excR_up {g : Gm} {m : Mm} {H : Hp} {c : Str} {fs : List (Str × PV)} {cls : Value} {dd : Option Addr} (h : ExcR g.bare m H c fs cls dd) : ExcR g m H c fs cls dd := by
  obtain ⟨C, h1, h2, h3, h4⟩ := h
  refine ⟨C, h1, h2, h3, fun n => ?_⟩
  obtain ⟨d, ws, e1, e2, e3⟩ := h4 n
  exact ⟨d, ws, e1, e2, repF_up e3⟩
/-- from the post of a wider place to that of a bare one -/
theorem post_bare {g : Gm} {W W' : WX} {σ σ' : L2.St} {m : Mm} {H : Hp} {Q : VK} {r : Res PV} (hW : ∀ c d H, W c d σ H → W' c d σ' H) (p : PostV g W σ m H Q r) : PostV g.bare W' σ' m H Q r := by
  cases r with
  | ok v S => exact fun m' H' w s h1 h2 => p m' H' w s (relS_as (g := g.bare) (g' := g) rfl h1) (Rep.up _ _ h2)
  | exc c fs S => exact fun m' H' cls dd s h1 h2 => hW _ _ _ (p m' H' cls dd s (relS_as (g := g.bare) (g' := g) rfl h1) (excR_up h2))
  | bad => exact p
section
variable {X : Cx} {T : Tb} {pins : List (Addr × Obj)} {σ : L2.St} {H : Hp} {s : Shared}
abbrev wT (T : Tb) (i : LmI) : Tb := ⟨T.tabs, some i, T.ed⟩
/-- x() in the def that got it -/
theorem lam_act {Eg : XK} {Ng : List Str} {qg : Str} {sg : Scope} {g f c' : Addr} {cdg pm ctv : Value} {params : Arguments} {body : Expr} {scope : Scope} {k i : Nat} {a : Str} {pn : List (Addr × Obj)} {xe : Value → Shared → Prop} {W : WX} {p1 p2 : Pos} {ρ : EnP} {db : EnP → Sto → Res PV}
    (I : Inv X pins σ H s) (L : LamX.LamS X.env.scope scope) (hX : X.A.handled = none) (hTl : T.lm = none) (hgX : X.A.guards = some [])
    (hf : s.heap.get? f = some (PySem.W.kla_obj "<lambda>" (X.env.qual ++ "<lambda>") params body scope (cloFrom X.env.cells scope.names []) pm c' ctv)) (hfn : H f = none) (hfr : f ∉ frs X.stack)
    (hbind : bindArgs (PySem.W.kla_fn "<lambda>" (X.env.qual ++ "<lambda>") params body scope (cloFrom X.env.cells scope.names []) pm (.ref c') ctv) ⟨[], []⟩ = pure [])
    (tk : Takes (((wdOf X T).cx Ng qg sg g cdg X.A X.stack s H Eg).tr pn xe) W) (hr : Room (k + 1) (X.A.deeper (envOfC qg sg s.heap.objs.size g cdg)))
    (hbody : ∀ (A : Around) (outer : List Env) (s1 : Shared) (H1 : Hp) (E : XK), Room k (A.deeper (LamX.lamEnv X scope s1.heap.objs.size f c')) → A.guards = some [] → CE (LamX.lamCx X A outer s1 H1 E scope f c') T (fun c d _ H => E c d H) body db)
    (hN : Ng[i]? = some a) (hv : Vis sg a) (hd : (a == ("__debug__" : Str)) = false := by decide) (hcd : (a == ("__classdict__" : Str)) = false := by decide) :
    CE (((wdOf X T).cx Ng qg sg g cdg X.A X.stack s H Eg).tr pn xe) (wT T (lamI (gm X T) f c' (X.env.qual ++ "<lambda>") ρ σ)) W (.Call (.Name a p1) [] [] p2) (dAct i fun S => db ρ S) := by
  refine ⟨fun pz sz σz Hz Q Iz ⟨ρz, S, m, hE, hS, p⟩ => ?_⟩
  unfold dAct at p
  split at p
  case h_2 => exact p.elim
  rename_i ei
  obtain ⟨w, ew, rw_⟩ := hE.at_ i _ ei
  unfold Rep at rw_
  obtain ⟨j, ej, rfl, hΦ⟩ := rw_
  cases ej
  obtain ⟨hEx, hno, hco⟩ := hΦ
  refine wpAny_Call_Name_kw (thn ((pe_var (pos := p1) (i := i) hN hv hd hcd).run pz sz σz Hz (fun v H1 => v = .ref f ∧ H1 = Hz) Iz ⟨.ref f, ew, rfl, rfl⟩) fun u s1 ⟨v, H1, I1, r1, q1, q2⟩ => ?_)
  rw [q1] at r1
  rw [q2] at I1
  obtain rfl : u = Value.ref f := r1
  have here : s1.heap.get? f = some (PySem.W.kla_obj "<lambda>" (X.env.qual ++ "<lambda>") params body scope (cloFrom X.env.cells scope.names []) pm c' ctv) := I1.base.keep f _ hf hfn hfr (fun z => nomatch (show f ∈ ([] : List Addr) from z))
  have un : Un (frs X.stack) [] H Hz s.heap s1.heap := I1.base
  obtain ⟨⟨oc, us, t, hoc, hdc, hvc⟩, _, _⟩ := I1.hok c' _ hco
  have hAd : (X.A.deeper (envOfC qg sg s.heap.objs.size g cdg)).handled = none := hX
  have pb : PostV (gm X T) (fun c d _ H => W c d σz H) σ m Hz Q (db ρ S) := by
    have q := post_bare (W' := fun c d _ H => W c d σz H) (σ' := σ) (fun _ _ _ h => h) p
    rw [← gm_bare hX hTl]
    exact q
  refine PySem.W.callWith_F0 ⟨_, _, _, _, here⟩ (wpAny_call (codeAny_mono (R := CR (L2.CX X.prog X.w) (envOfC qg sg s.heap.objs.size g cdg :: X.stack) X.prog X.w Hz s1 Q (fun c d H => W c d σz H)) ?_ fun r s' hq => ?_))
  · refine PySem.W.kla_callFunE hr.depth here rfl L.co L.gen rfl ⟨c', oc, us, t, rfl, hoc, hdc, hvc⟩ ?_
    rw [List.append_nil, hbind]
    refine wpAny_pure (wpAny_newFunctionEnv (fun y hy => (L.own y hy).2) (fun y hy => absurd hy (by simp)) (fun h₁ hns hsb => ⟨I1.nolimit.fresh _ hsb, ?_⟩) L.kind)
    show codeAny _ _ (.expr body (LamX.lamEnv X scope s1.heap.objs.size f c')) _ _
    have J := LamX.lam_start2 (E := fun c d H => W c d σz H) (f := f) (c' := c') (tk := s1.toks + ([] : List (Str × Value)).length) I L I1.env0 hAd un hns fun b o e => hsb.extBut b o (Nat.ne_of_lt (Heap.lt_size e)) (Heap.get?_push_of_some _ e)
    have hb := hbody _ (envOfC qg sg s.heap.objs.size g cdg :: X.stack) s1 Hz (fun c d H => W c d σz H) (hr.deeper _) hgX
    have eg : gm X T = gm (LamX.lamCx X (X.A.deeper (envOfC qg sg s.heap.objs.size g cdg)) (envOfC qg sg s.heap.objs.size g cdg :: X.stack) s1 Hz (fun c d H => W c d σz H) scope f c') T := rfl
    refine PySem.W.kla_codeExpr (wpAny_mono (hb.run [] _ σ Hz Q J ⟨ρ, S, m, hEx, ?_, pb⟩) (fun v s' hq => ?_) fun e s' hq => hq)
    · exact relS_as (by show Gm.bare _ = Gm.bare _; rfl) hS
    · obtain ⟨w', H', J', rv, q⟩ := hq
      exact ⟨w', H', J'.os, J'.bare, J'.base, J'.hok, rv, q⟩
  · cases r with
    | error e => exact tk e s' (XE.of_call I1 (fun _ _ _ h => h) hq)
    | ok fl =>
      cases fl with
      | ret u => exact I1.after hq
      | _ => exact False.elim hq
end
/-! ### the def that gets it -/
def cleanR : Res PV → Res PV
  | .ok v S => if flatP v = true then .ok v S else .bad
  | .exc c [] S => .exc c [] S
  | _ => .bad
structure FL (Z : Wd) (k : Nat) (x : Str) (G : (Sto → Res PV) → Sto → Res PV) : Prop where
  ex : ∃ (g : Addr) (st : Stmt) (cdv : Value) (N : List Str) (a : Str) (d : (Sto → Res PV) → EnP → Sto → SR), Z.mg x = some (.ref g) ∧ PySem.W.keepIn Z.K (.ref g) = true ∧ FunC Z.K x st g cdv ∧ FnScope N [a] (defScope st) ∧ BindC x st [a] ∧
    N[0]? = some a ∧ Vis (defScope st) a ∧ (a == ("__debug__" : Str)) = false ∧ (a == ("__classdict__" : Str)) = false ∧ (∀ C S, G C S = cleanR (runF 1 N.length (d C) [.lam] S)) ∧
    ∀ (i : LmI) (C : Sto → Res PV) (A : Around) (outer : List Env) (s : Shared) (H : Hp) (E : XK), Room k (A.deeper (envOfC x (defScope st) s.heap.objs.size g cdv)) → A.guards = some [] →
      (∀ (pn : List (Addr × Obj)) (xe : Value → Shared → Prop) (W : WX) (p1 p2 : Pos), Takes ((Z.cx N x (defScope st) g cdv A outer s H E).tr pn xe) W → CE ((Z.cx N x (defScope st) g cdv A outer s H E).tr pn xe) (wT Z.T i) W (.Call (.Name a p1) [] [] p2) (dAct 0 C)) →
      CSs (Z.cx N x (defScope st) g cdv A outer s H E) (wT Z.T i) (fun c d _ H => E c d H) (defBody st) (d C)
theorem step_extN {m : Mm} {H H1 : Hp} (e : LamX.ExtN H H1) : Step m H m H1 :=
  ⟨⟨[], by simp⟩, fun _ h => h, fun a h1 h2 => absurd h1 h2, fun a h1 h2 => absurd h1 h2, fun a o _ q n => e a o q n, fun a xs q => e a _ q (fun ps z => by cases z), fun a o u q => e a _ q (fun ps z => by cases z)⟩
theorem relS_extN {g : Gm} {m : Mm} {S : Sto} {H H1 : Hp} (h : RelS g m S H) (e : LamX.ExtN H H1) (t : LamX.Tabs g.T.tabs H1) : RelS g m S H1 :=
  ⟨h.len, h.nd, fun a ha => ⟨(h.exs a ha).1, (h.exs a ha).2.imp fun vs q => ⟨e a _ q.1 q.2.nt, q.2⟩⟩, fun n xs q => by
    obtain ⟨a, vs, e1, e2, e3⟩ := h.at_ n xs q
    exact ⟨a, vs, e1, e a _ e2 e3.tr.nt, RSO.step (step_extN e) e3⟩, t⟩
/-- back to the place of the call: what came is flat, or an error without fields -/
theorem post_wide {X Y : Cx} {T : Tb} {i : LmI} {W W' : WX} {σ σ' : L2.St} {m : Mm} {H : Hp} {Q : VK} {r : Res PV} (eK : Y.K = X.K) (eM : Y.mg = X.mg) (hb : Bare (gm X T)) (hW : ∀ c d H, W c d σ H → W' c d σ' H) (p : PostV (gm X T) W σ m H Q (cleanR r)) : PostV (gm Y (wT T i)) W' σ' m H Q r := by
  have eb : (gm Y (wT T i)).bare = (gm X T).bare := by
    show Gm.mk Y.K Y.mg _ _ = Gm.mk X.K X.mg _ _
    rw [eK, eM]
  cases r with
  | ok v S =>
    simp only [cleanR] at p
    by_cases hf : flatP v = true
    · rw [if_pos hf] at p
      exact fun m' H' w s h1 h2 => p m' H' w s (relS_as eb h1) (flat_any hf h2)
    · rw [if_neg hf] at p; exact p.elim
  | exc c fs S =>
    cases fs with
    | nil =>
      intro m' H' cls dd s h1 ⟨C, k1, k2, k3, k4⟩
      exact hW _ _ _ (p m' H' cls dd s (relS_as eb h1) ⟨C, by show X.mg c = _; rw [← eM]; exact k1, k2, k3, fun n => absurd rfl n⟩)
    | cons f r => exact p.elim
  | bad => exact p.elim
section
variable {X : Cx} {T : Tb} {W : WX}
theorem ce_lam {x : Str} {G : (Sto → Res PV) → Sto → Res PV} {kF kl j : Nat} {c P : Addr} {params : Arguments} {body : Expr} {scope : Scope} {p lpos pos : Pos} {db : EnP → Sto → Res PV} (F : FL (wdOf X T) kF x G) (Cx_ : Ctx X j W) (hk1 : kF ≤ kl + 1) (hk2 : kl + 2 ≤ j) (hTl : T.lm = none)
    (hg : Gl X x) (TB : LamX.TabB X.base X.mg c P) (hcode : X.env.code = .ref c) (hmT : (P, X.env.qual ++ "<lambda>") ∈ T.tabs) (hu : ∀ p ∈ T.tabs, p.1 = P → p.2 = X.env.qual ++ "<lambda>") (L : LamX.LamS X.env.scope scope) (hdef : defaultsOf params X.env = ([], []))
    (hbind : ∀ (q : Str) (cl : List (Str × Addr)) (pm cv ctv : Value), bindArgs (PySem.W.kla_fn "<lambda>" q params body scope cl pm cv ctv) ⟨[], []⟩ = pure [])
    (hbody : ∀ (A : Around) (outer : List Env) (s1 : Shared) (H1 : Hp) (E : XK) (f c' : Addr), Room kl (A.deeper (LamX.lamEnv X scope s1.heap.objs.size f c')) → A.guards = some [] → CE (LamX.lamCx X A outer s1 H1 E scope f c') T (fun c d _ H => E c d H) body db)
    (hdb : (x == ("__debug__" : Str)) = false := by decide) : CE X T W (.Call (.Name x p) [.Lambda params body scope lpos] [] pos) (fun ρ S => G (fun S => db ρ S) S) := by
  obtain ⟨g, st, cdv, N, a, d, hm, hk, FC_, Sc, hbd, hN0, hva, hd1, hd2, hG, hB⟩ := F.ex
  refine ⟨fun pins s σ H Q I ⟨ρ, S, m, hE, hS, q⟩ => ?_⟩
  refine wpAny_Call_Name_kw (ld_glob I hg hm ?_ hdb)
  refine PySem.W.callWith_K (h₀ := X.base) I.ok.mod.kin hk ?_ (by rfl) (by rfl)
  show wpAny _ _ (spliced ((false, eval (.Lambda params body scope lpos) X.env) :: backTo pos (starEach [] X.env))) _ _ s
  refine Calls.spliced_cons (LamX.lam_make2 I TB hcode hmT hu hS.tab hdef (L.has I.ok) fun f c' pm' ctv H1 s' I1 eN T1 hf hfn hfr hco => Calls.spliced_nil ⟨I1.kIn, ?_⟩)
  have hS1 := relS_extN hS eN T1
  have st1 : Step m H m H1 := step_extN eN
  have hE1 := hE.step st1
  have nlst : ∀ u, H1 c' = some u → ¬ Tr u := fun u e t => by
    rw [hco] at e
    unfold LamX.CodeO at e
    cases e
    rcases t with ⟨_, q⟩ | ⟨_, q⟩ | ⟨_, _, q⟩ <;> cases q
  have nc : m.no c' := by
    refine ⟨fun z => ?_, fun z => ?_⟩
    · obtain ⟨vs, e, t⟩ := hS1.tracked z
      exact nlst vs e t
    · obtain ⟨_, vs, e, t⟩ := hS1.exs c' z
      exact nlst vs e t
  have hX := Cx_.room.hd
  have hbr : Bare (gm X T) := gm_bare hX hTl
  have q1 : PostV (gm X T) W σ m H1 Q (cleanR (runF 1 N.length (d fun S => db ρ S) [.lam] S)) := by
    have q0 : PostV (gm X T) W σ m H1 Q (G (fun S => db ρ S) S) := PostR.step st1 q
    rw [hG] at q0
    exact q0
  let i : LmI := lamI (gm X T) f c' (X.env.qual ++ "<lambda>") ρ σ
  let Y : Cx := (wdOf X T).cx N x (defScope st) g cdv X.A X.stack s' H1 (fun c d H => W c d σ H)
  have q2 : PostV (gm Y (wT T i)) (fun c d _ H => W c d σ H) (L2.start N [.ref f]) m H1 Q (endOf (d (fun S => db ρ S) (startP N.length [.lam]) S)) := by
    refine post_wide (X := X) (Y := Y) rfl rfl hbr (fun _ _ _ h => h) (σ := σ) (W := W) ?_
    have e : runF 1 N.length (d fun S => db ρ S) [.lam] S = endOf (d (fun S => db ρ S) (startP N.length [.lam]) S) := rfl
    rw [← e]
    exact q1
  have rx : RepL (gm Y (wT T i)) m H1 [.lam] [.ref f] := RepL.cons (by unfold Rep; exact ⟨i, rfl, rfl, hE1, nc, hco⟩) RepL.nil
  have hS2 : RelS (gm Y (wT T i)) m S H1 := relS_as (by show Gm.bare _ = Gm.bare _; rfl) hS1
  have hr2 : Room (kl + 2) X.A := Cx_.room.mono hk2
  have body1 := hB i (fun S => db ρ S) X.A X.stack s' H1 (fun c d H => W c d σ H) ((hr2.deeper _).mono hk1) Cx_.gd fun pn xe W' p1 p2 tk' => lam_act (p1 := p1) (p2 := p2) (ρ := ρ) (db := db) I1 L hX hTl Cx_.gd hf hfn hfr (hbind _ _ _ _ _) tk' (hr2.deeper _) (fun A outer s1 H2 E h1 h2 => hbody A outer s1 H2 E f c' h1 h2) hN0 hva hd1 hd2
  have run := run_body (k := kl + 1) (E := fun c d H => W c d σ H) (Q := Q) FC_ Sc hbd hr2 I1.env0 (show Vals [V.ref f] [Value.ref f] from .cons rfl .nil) rfl body1 ⟨_, S, m, start_rel rx, hS2, endOf_post (fun _ _ _ _ _ h => h) q2⟩
  refine wpAny_call (codeAny_mono run fun r s2 hq => ?_)
  cases r with
  | error e => exact Cx_.tk e s2 (XE.of_call I1 (fun _ _ _ h => h) hq)
  | ok fl =>
    cases fl with
    | ret u => exact I1.after hq
    | _ => exact False.elim hq
end
/-! ### a call of what a name holds: a def of the module -/
def dCallV (i : Nat) (tbl : Str → Option (List PV → Sto → Res PV)) (dl : EnP → Sto → Res (List PV)) : EnP → Sto → Res PV := fun ρ S => match ρ[i]? with
  | some (some (.glb x)) => (match tbl x with
    | some F => (dl ρ S).bind fun xs S1 => F xs S1
    | none => .bad)
  | _ => .bad
section
variable {X : Cx} {T : Tb} {W : WX}
theorem ce_callV {j k i : Nat} {y : Str} {p pos : Pos} {e : Expr} {es : List Expr} {dl : EnP → Sto → Res (List PV)} {tbl : Str → Option (List PV → Sto → Res PV)} (C : Ctx X k W) (c : ∀ x F, tbl x = some F → FC (wdOf X T) j x F) (hjk : j ≤ k) (hN : X.N[i]? = some y) (hv : Vis X.env.scope y) (ha : CA X T W (e :: es) dl)
    (hd : (y == ("__debug__" : Str)) = false := by decide) (hcd : (y == ("__classdict__" : Str)) = false := by decide)
    (he : starEach (e :: es) X.env = (false, eval e X.env) :: starEach es X.env := by rfl) (hpl : (backTo pos (starEach es X.env)).any (·.1) = false := by rfl) : CE X T W (.Call (.Name y p) (e :: es) [] pos) (dCallV i tbl dl) := by
  refine ⟨fun pins s σ H Q I ⟨ρ, S, m, hE, hS, q⟩ => ?_⟩
  unfold dCallV at q
  split at q
  case h_2 => exact q.elim
  rename_i x ei
  cases et : tbl x with
  | none => rw [et] at q; exact q.elim
  | some F =>
    rw [et] at q
    obtain ⟨w, ew, rw_⟩ := hE.at_ i _ ei
    unfold Rep at rw_
    obtain ⟨f0, hm0, rfl⟩ := rw_
    obtain ⟨f, hm, hk, fa⟩ := (c x F et).ex
    have ef : f0 = f := by
      have z := hm0.symm.trans hm
      cases z
      rfl
    subst ef
    refine wpAny_Call_Name_kw (thn ((pe_var (pos := p) (i := i) hN hv hd hcd).run pins s σ H (fun v H1 => v = .ref f0 ∧ H1 = H) I ⟨.ref f0, ew, rfl, rfl⟩) fun u s1 ⟨v, H1, I1, r1, q1, q2⟩ => ?_)
    rw [q1] at r1
    rw [q2] at I1
    obtain rfl : u = Value.ref f0 := r1
    refine PySem.W.callWith_K (h₀ := X.base) I1.ok.mod.kin hk (thn (ha.run pos pins s1 σ H (fun vs H1 => ∃ xs S1 m1, RelS (gm X T) m1 S1 H1 ∧ RepL (gm X T) m1 H1 xs vs ∧ PostV (gm X T) W σ m1 H1 Q (F xs S1)) I1 ?_) fun us s2 ⟨vs, H2, I2, r, xs, S1, m1, a1, a2, a3⟩ => ⟨I2.kIn, (fa.mono hjk).call C.room C.gd C.tk I2 r a1 a2 a3⟩) he hpl
    exact tr_bind (f := fun xs _ S1 => F xs S1) hE hS q fun xs S1 m1 H1 ws s1 hE1 hS1 hr1 p1 => ⟨xs, S1, m1, hS1, hr1, p1⟩
end
end Mi
end
section
set_option Elab.async false
set_option linter.all false
set_option maxRecDepth 100000
set_option maxHeartbeats 2000000
namespace Mi
open PySem PySem.Spec PyProof.Rows L2

/-! ### the end of a law -/
/-- a lambda's maker: its code object, the table of the code objects under it, the lambdas' name -/
structure Lt where
  code : Addr
  tab : Addr
  q : Str
abbrev tabOf (cs : List Lt) : Tb := ⟨cs.map fun c => (c.tab, c.q), none, none⟩
abbrev T0 : Obj := { cls := .none, data := .fields #[] }
/-- what is tracked when the law is called: the tables, and the script if it is no written one -/
def topH (K : PySem.W.Frag) (cs : List Lt) (a : Addr) (vs : List Value) (ns : List Int) : Hp := fun b =>
  if b ∈ cs.map (·.tab) then some (.tbl #[]) else if b = a ∧ K.lookup a = none then some (.frz { cls := .type "list", data := .seq vs.toArray } (.lst (ns.map V.int))) else none
/-- the state at the law's call, told to a def's promise -/
structure TopOk (P : Program) (w : World) (K : PySem.W.Frag) (mg : Str → Option Value) (cs : List Lt) (a : Addr) (ns : List Int) (base : Heap) (s₁ : Shared) (H : Hp) : Prop where
  env : Env0 P w K mg base callerA [] s₁ H
  tabs : ∀ c ∈ cs, H c.tab = some (.tbl #[])
  tabB : ∀ c ∈ cs, LamX.TabB base mg c.code c.tab
  scr : (∃ o, H a = some (HO.frz o (HO.lst (ns.map V.int)))) ∨ SqL K H0 a (ns.map V.int)
theorem run_top {P : Program} {w : World} {K : PySem.W.Frag} {mg mb : Str → Option Value} {fa a : Addr} {cs : List Lt} {s₁ : Shared} {vs : List Value} {ns : List Int}
    (KX : K.In s₁.heap) (hns : s₁.heap.Ns mainGlobals mg) (hb : s₁.heap.Ns builtinsNs mb) (hbb : ∀ x : Str, x ≠ "__name__" → mb x = bootBuiltins x) (hlim : s₁.heap.NoLimit) (hg : s₁.gens = #[])
    (hT : ∀ c ∈ cs, s₁.heap.get? c.tab = some T0) (nT : ∀ c ∈ cs, K.lookup c.tab = none) (hC : ∀ c ∈ cs, PySem.W.CodeHd s₁.heap c.code c.tab)
    (hbm : ∃ (bm : Addr) (ob : Obj), mg "__builtins__" = some (.ref bm) ∧ bm ≠ builtinsNs ∧ s₁.heap.get? bm = some ob ∧ ob.cls = .type "module" ∧ ob.dict = some builtinsNs ∧ ob.data = .plain)
    (ha : s₁.heap.get? a = some { cls := .type "list", data := .seq vs.toArray }) (hi : IntsAre vs ns) (hl : ns.length ≤ sizeLine)
    (F : ∀ base H, K.In base → base.Ns mainGlobals mg → TopOk P w K mg cs a ns base s₁ H → codeAny (model P w) callerA (.call (.ref fa) ⟨[.ref a], []⟩) (CR (L2.CX P w) [] P w H s₁ (fun v _ => v = .bl true) fun _ _ _ => False) s₁) :
    codeAny (model P w) callerA (.call (.ref fa) ⟨[.ref a], []⟩) (fun r s' => r = .ok (.ret (.bool true)) ∧ OldK s₁.heap s'.heap ∧ s'.os = s₁.os ∧ AllBare s'.gens) s₁ := by
  have rv := vals_ints hi
  have lenV := hi.length
  -- what stands at a tracked place
  have trk : ∀ b u, topH K cs a vs ns b = some u → (b ∈ cs.map (·.tab) ∧ u = .tbl #[] ∧ s₁.heap.get? b = some T0) ∨ (b = a ∧ K.lookup a = none ∧ b ∉ cs.map (·.tab) ∧ u = .frz { cls := .type "list", data := .seq vs.toArray } (.lst (ns.map V.int))) := fun b u e => by
    unfold topH at e
    by_cases hb : b ∈ cs.map (·.tab)
    · rw [if_pos hb] at e
      cases e
      obtain ⟨c, hc, rfl⟩ := List.mem_map.mp hb
      exact .inl ⟨hb, rfl, hT c hc⟩
    · rw [if_neg hb] at e
      by_cases h2 : b = a ∧ K.lookup a = none
      · rw [if_pos h2] at e
        cases e
        exact .inr ⟨h2.1, h2.2, hb, rfl⟩
      · rw [if_neg h2] at e
        cases e
  have tabAt : ∀ c ∈ cs, topH K cs a vs ns c.tab = some (.tbl #[]) := fun c hc => if_pos (List.mem_map.mpr ⟨c, hc, rfl⟩)
  have aT : a ∉ cs.map (·.tab) := fun z => by
    obtain ⟨c, hc, e⟩ := List.mem_map.mp z
    have q := hT c hc
    rw [e, ha] at q
    exact Data.noConfusion (congrArg Obj.data (Option.some.inj q))
  -- objects that are no lists and no empty records are not tracked
  have noT : ∀ {b : Addr} {o : Obj}, s₁.heap.get? b = some o → (∀ xs n, o.data ≠ .seq xs n) → o.data ≠ .fields #[] → topH K cs a vs ns b = none := fun {b o} e h1 h2 => by
    cases q : topH K cs a vs ns b with
    | none => rfl
    | some u =>
      rcases trk b u q with ⟨_, _, t⟩ | ⟨eb, _⟩
      · rw [e] at t
        cases t
        exact absurd rfl h2
      · rw [eb, ha] at e
        cases e
        exact absurd rfl (h1 _ _)
  have toBase : ∀ {b : Addr} {o : Obj}, s₁.heap.get? b = some o → topH K cs a vs ns b = none → (L2.hidT s₁.heap (topH K cs a vs ns)).get? b = some o := fun e n => L2.hidT_get e n
  have nsB : ∀ {b : Addr} {mm : Str → Option Value}, s₁.heap.Ns b mm → (L2.hidT s₁.heap (topH K cs a vs ns)).Ns b mm := fun {b mm} ⟨o, es, ep, e, d, r⟩ =>
    ⟨o, es, ep, toBase e (noT e (fun xs n z => by rw [d] at z; cases z) fun z => by rw [d] at z; cases z), d, r⟩
  have KB : K.In (L2.hidT s₁.heap (topH K cs a vs ns)) := fun b o e => toBase (KX b o e) (by
    cases q : topH K cs a vs ns b with
    | none => rfl
    | some u =>
      rcases trk b u q with ⟨m, _⟩ | ⟨eb, n, _⟩
      · obtain ⟨c, hc, e2⟩ := List.mem_map.mp m
        rw [← e2, nT c hc] at e
        cases e
      · rw [eb, n] at e
        cases e)
  have hok : HOk P w (topH K cs a vs ns) s₁.heap := fun b u q => by
    rcases trk b u q with ⟨_, rfl, t⟩ | ⟨eb, _, _, rfl⟩
    · exact t
    · rw [eb]
      exact ⟨ha, by rw [List.length_map]; exact hl, vs, _, rv, ha⟩
  have tb : ∀ c ∈ cs, LamX.TabB (L2.hidT s₁.heap (topH K cs a vs ns)) mg c.code c.tab := fun c hc => by
    refine ⟨?_, ?_, fun z => ?_⟩
    · obtain ⟨o, us, file, tf, flags, tg, inF, text, tt, e1, r1, r2, r3, rest⟩ := hC c hc
      refine ⟨o, us, file, tf, flags, tg, inF, text, tt, toBase e1 (noT e1 (fun xs n z => by rw [r2] at z; cases z) fun z => ?_), r1, r2, r3, rest⟩
      rw [r2] at z
      cases z
      exact absurd r3 (by simp)
    · obtain ⟨bm, ob, b1, b2, b3, b4, b5, b6⟩ := hbm
      refine ⟨bm, ob, b1, b2, fun q => ?_, fun q => ?_, toBase b3 (noT b3 (fun xs n z => by rw [b6] at z; cases z) fun z => by rw [b6] at z; cases z), b4, b5, b6⟩
      · obtain ⟨o, es, ep, e, hd, _⟩ := hns
        rw [q, e] at b3
        cases b3
        rw [hd] at b6
        cases b6
      · rw [q, hT c hc] at b3
        cases b3
        cases b6
    · obtain ⟨o, es, ep, e, hd, _⟩ := hns
      rw [z, hT c hc] at e
      cases e
      cases hd
  have e0 : Env0 P w K mg (L2.hidT s₁.heap (topH K cs a vs ns)) callerA [] s₁ (topH K cs a vs ns) :=
    ⟨rfl, ⟨KB, nsB hns, ⟨mb, nsB hb, hbb⟩, let ⟨mc, h1, h2⟩ := hlim; ⟨mc, nsB h1, h2⟩⟩, fun b o e => L2.of_hidT e, Nat.le_of_eq (L2.hidT_size _ _), trivial, fun b hx => absurd (show b ∈ ([] : List Addr) from hx) (by simp), hok, .of_eq hg⟩
  have scr : (∃ o, topH K cs a vs ns a = some (HO.frz o (HO.lst (ns.map V.int)))) ∨ SqL K H0 a (ns.map V.int) := by
    cases hk : K.lookup a with
    | none => exact .inl ⟨_, (if_neg aT).trans (if_pos ⟨rfl, hk⟩)⟩
    | some o =>
      have e := KX a o hk
      rw [ha] at e
      cases e
      exact .inr (.inr ⟨_, vs.toArray, _, hk, rfl, rfl, rfl, by rw [List.size_toArray, lenV]; exact hl, by simpa using rv⟩)
  refine codeAny_mono (F _ _ KB (nsB hns) ⟨e0, tabAt, tb, scr⟩) fun r s' h => ?_
  cases r with
  | error e =>
    obtain ⟨_, _, _, _, _, _, _, _, _, _, _, _, z⟩ := h
    exact z.elim
  | ok fl =>
    cases fl with
    | ret u =>
      obtain ⟨v, H', os, bare, un, hok', r', q⟩ := h
      obtain rfl : v = .bl true := q
      obtain rfl : u = Value.bool true := r'
      have old : ∀ b o, b ∉ cs.map (·.tab) → s₁.heap.get? b = some o → s'.heap.get? b = some o := fun b o nb e => by
        cases q : topH K cs a vs ns b with
        | none => exact un.keep b o e q (fun z => absurd (show b ∈ ([] : List Addr) from z) (by simp)) (by simp)
        | some u =>
          rcases trk b u q with ⟨m, _⟩ | ⟨eb, _, _, rfl⟩
          · exact absurd m nb
          · obtain ⟨e2, _⟩ := hok' b _ (un.frzs b _ _ q)
            rw [eb, ha] at e
            cases e
            exact e2
      have more : ∀ c ∈ cs, ∃ xs : Array Value, s'.heap.get? c.tab = some { cls := .none, data := .fields xs } := fun c hc => by
        obtain ⟨xs, z⟩ := un.tbls c.tab #[] (tabAt c hc)
        exact ⟨_, hok' c.tab _ z⟩
      refine ⟨rfl, ⟨fun b o e => ?_, fun b o e => ?_⟩, os, bare⟩
      · by_cases hm : b ∈ cs.map (·.tab)
        · obtain ⟨c, hc, ec⟩ := List.mem_map.mp hm
          subst ec
          obtain ⟨xs, hx⟩ := more c hc
          rw [hT c hc] at e
          cases e
          exact .inr (.inl ⟨((hC c hc).tab (hT c hc)).isCodeTable, rfl, #[], xs, rfl, by rw [Array.empty_append]; exact hx⟩)
        · exact .inl (old b o hm e)
      · by_cases hm : b ∈ cs.map (·.tab)
        · obtain ⟨c, hc, ec⟩ := List.mem_map.mp hm
          subst ec
          obtain ⟨xs, hx⟩ := more c hc
          exact ⟨_, hx⟩
        · exact ⟨o, old b o hm e⟩
    | _ => exact False.elim h
/-- a def's promise on the script -/
theorem fa_top {P : Program} {w : World} {K : PySem.W.Frag} {mg : Str → Option Value} {cs : List Lt} {a fa : Addr} {ns : List Int} {base : Heap} {s₁ : Shared} {H : Hp} {k : Nat} {F : List PV → Sto → Res PV} {S' : Sto} (t : TopOk P w K mg cs a ns base s₁ H) (hr : Room k callerA)
    (fa_ : FA ⟨P, w, K, mg, base, tabOf cs⟩ k fa F) (e : F [.fl (ns.map .int)] [] = .ok (.bl true) S') :
    codeAny (model P w) callerA (.call (.ref fa) ⟨[.ref a], []⟩) (CR (L2.CX P w) [] P w H s₁ (fun v _ => v = .bl true) fun _ _ _ => False) s₁ := by
  have lits : ∀ l : List Int, RepL (⟨K, mg, tabOf cs, none⟩ : Gm) ⟨[], []⟩ H (l.map PV.int) (l.map V.int) := fun l => by
    induction l with
    | nil => exact RepL.nil
    | cons i r ih => exact RepL.cons (mk_int i) ih
  refine fa_ callerA [] s₁ H [.ref a] [.ref a] [.fl (ns.map .int)] [] ⟨[], []⟩ _ _ hr rfl t.env (.cons rfl .nil) ⟨rfl, List.nodup_nil, fun b hb => absurd hb (by simp), fun n xs q => by simp at q, fun p hp => ?_⟩ (RepL.cons ?_ RepL.nil) ?_
  · obtain ⟨c, hc, rfl⟩ := List.mem_map.mp hp
    exact LamX.TabS.nil (t.tabs c hc)
  · unfold Rep
    exact ⟨a, ns.map V.int, rfl, t.scr, lits ns⟩
  · rw [e]
    exact fun m' H' v s h1 h2 => rep_bl h2
/-- THE END: what a law's head leaves, and the law's def as a function of the script -/
theorem walk_end {l : PySem.W.OpenLaw} {n k : Nat} {q : Program} {loose : List Str} {XP : (Str → Option Value) → Heap → Prop} {YP : World → Heap → Prop} {d : DefRec} {K : Params → PySem.W.Frag}
    (hn : l.most = some n) (hn2 : n ≤ sizeLine) (hdf : d.params.defaults = []) (hr : Room k callerA) (hY : ∀ (w : World) (h : Heap), YP w h → (K w.params).In h)
    (F : ∀ (w : World) (mg : Str → Option Value) (fa : Addr) (h : Heap), YP w h → XP mg h → (K w.params).In h → h.Ns mainGlobals mg → mg d.name = some (.ref fa) →
      ∃ (cs : List Lt) (Ff : List PV → Sto → Res PV), (∀ c ∈ cs, h.get? c.tab = some T0) ∧ (∀ c ∈ cs, (K w.params).lookup c.tab = none) ∧ (∀ c ∈ cs, PySem.W.CodeHd h c.code c.tab) ∧
        (∀ base : Heap, (K w.params).In base → base.Ns mainGlobals mg → (∀ c ∈ cs, LamX.TabB base mg c.code c.tab) → FA ⟨l.prog, w, K w.params, mg, base, tabOf cs⟩ k fa Ff) ∧
        ∀ ns : List Int, ns.length ≤ n → (∀ z ∈ ns, Builtin.Int.intBits z ≤ 1048576) → ∃ S', Ff [.fl (ns.map .int)] [] = .ok (.bl true) S') :
    PySem.W.WalkO q loose XP YP l.row.toRowW d [] (fun f vs => PySem.call f vs) := by
  refine Att.attach_callB hn hdf fun w s₀ s₁ mg mb fa o pm cd doc a vs ns G Y ho hd hcd hmg hobj hints hlen hbits hg => ?_
  obtain ⟨cs, Ff, h1, h2, h3, h4, h5⟩ := F w mg fa _ Y G.X (hY w _ Y) G.T.g hmg
  obtain ⟨S', e⟩ := h5 ns hlen hbits
  exact run_top (hY w _ Y) G.T.g G.T.b G.T.builtins G.T.nolimit hg h1 h2 h3 G.T.bmain hobj hints (Nat.le_trans hlen hn2) fun base H kb nb t => fa_top t hr (h4 base kb nb t.tabB) e
end Mi
end
section
set_option Elab.async false
set_option linter.all false
set_option maxRecDepth 100000
set_option maxHeartbeats 2000000
namespace Mi
open PySem PySem.Spec PyProof.Rows L2

/-! ### what is said of a program -/
/-- built-in names that the module leaves as they are -/
def biNames : List Str := ["len", "isinstance", "abs", "int", "tuple", "list", "str", "bool", "all", "any", "zip", "range", "repr", "max", "min", "enumerate", "sorted", "sum", "ValueError", "dict", "set", "reversed"]
structure Bi (mg : Str → Option Value) : Prop where
  get : ∀ {x : Str}, x ∈ biNames → mg x = none
/-- a def of the module -/
structure DefOk (Z : Wd) (x : Str) (st : Stmt) : Prop where
  ex : ∃ f cdv, Z.mg x = some (.ref f) ∧ PySem.W.keepIn Z.K (.ref f) = true ∧ FunC Z.K x st f cdv
/-- .. whose code object stands at c -/
structure DefOkC (Z : Wd) (x : Str) (st : Stmt) (c : Addr) : Prop where
  ex : ∃ f, Z.mg x = some (.ref f) ∧ PySem.W.keepIn Z.K (.ref f) = true ∧ FunC Z.K x st f (.ref c)
theorem DefOk.fc {Z : Wd} {k : Nat} {x : Str} {st : Stmt} {N ps : List Str} {d : EnP → Sto → SR} (D : DefOk Z x st) (Sc : FnScope N ps (defScope st)) (hb : BindC x st ps)
    (body : ∀ (f : Addr) (cdv : Value) (A : Around) (outer : List Env) (s : Shared) (H : Hp) (E : XK), Ctx (Z.cx N x (defScope st) f cdv A outer s H E) k (fun c d _ H => E c d H) → CSs (Z.cx N x (defScope st) f cdv A outer s H E) Z.T (fun c d _ H => E c d H) (defBody st) d) :
    FC Z (k + 1) x (runF ps.length N.length d) := by
  obtain ⟨f, cdv, h1, h2, h3⟩ := D.ex
  exact ⟨f, h1, h2, fa_of h3 Sc hb fun A outer s H E hr hg => body f cdv A outer s H E (ctx_of hr hg)⟩
theorem DefOkC.fc {Z : Wd} {k : Nat} {x : Str} {st : Stmt} {c : Addr} {N ps : List Str} {d : EnP → Sto → SR} (D : DefOkC Z x st c) (Sc : FnScope N ps (defScope st)) (hb : BindC x st ps)
    (body : ∀ (f : Addr) (A : Around) (outer : List Env) (s : Shared) (H : Hp) (E : XK), Ctx (Z.cx N x (defScope st) f (.ref c) A outer s H E) k (fun c d _ H => E c d H) → CSs (Z.cx N x (defScope st) f (.ref c) A outer s H E) Z.T (fun c d _ H => E c d H) (defBody st) d) :
    FC Z (k + 1) x (runF ps.length N.length d) := by
  obtain ⟨f, h1, h2, h3⟩ := D.ex
  exact ⟨f, h1, h2, fa_of h3 Sc hb fun A outer s H E hr hg => body f A outer s H E (ctx_of hr hg)⟩
def lamF (len : Nat) (d : (Sto → Res PV) → EnP → Sto → SR) : (Sto → Res PV) → Sto → Res PV := fun C S => cleanR (runF 1 len (d C) [.lam] S)
theorem DefOk.fl {Z : Wd} {k : Nat} {x a : Str} {st : Stmt} {N : List Str} {d : (Sto → Res PV) → EnP → Sto → SR} (D : DefOk Z x st) (Sc : FnScope N [a] (defScope st)) (hb : BindC x st [a]) (hN0 : N[0]? = some a) (hv : Vis (defScope st) a)
    (body : ∀ (i : LmI) (C : Sto → Res PV) (f : Addr) (cdv : Value) (A : Around) (outer : List Env) (s : Shared) (H : Hp) (E : XK), Ctx (Z.cx N x (defScope st) f cdv A outer s H E) k (fun c d _ H => E c d H) →
      (∀ (pn : List (Addr × Obj)) (xe : Value → Shared → Prop) (W : WX) (p1 p2 : Pos), Takes ((Z.cx N x (defScope st) f cdv A outer s H E).tr pn xe) W → CE ((Z.cx N x (defScope st) f cdv A outer s H E).tr pn xe) (wT Z.T i) W (.Call (.Name a p1) [] [] p2) (dAct 0 C)) →
      CSs (Z.cx N x (defScope st) f cdv A outer s H E) (wT Z.T i) (fun c d _ H => E c d H) (defBody st) (d C)) (hd1 : (a == ("__debug__" : Str)) = false := by decide) (hd2 : (a == ("__classdict__" : Str)) = false := by decide) : FL Z k x (lamF N.length d) := by
  obtain ⟨f, cdv, h1, h2, h3⟩ := D.ex
  exact ⟨f, st, cdv, N, a, d, h1, h2, h3, Sc, hb, hN0, hv, hd1, hd2, fun _ _ => rfl, fun i C A outer s H E hr hg act => body i C f cdv A outer s H E (ctx_of hr hg) act⟩
section
variable {X : Cx} {T : Tb} {W : WX} {k : Nat}
theorem Ctx.u (C : Ctx X k W) : X.A.units + 100 < cLine := by have := C.room.un; omega
theorem u64 (h : X.A.units + 100 < cLine) : X.A.units + 64 < cLine := by omega
theorem u65 (h : X.A.units + 100 < cLine) : X.A.units + 65 < cLine := by omega
theorem u80 (h : X.A.units + 100 < cLine) : X.A.units + 80 < cLine := by omega
theorem ctx_lam {A : Around} {outer : List Env} {s : Shared} {H : Hp} {E : XK} {scope : Scope} {f c' : Addr} (hr : Room k (A.deeper (LamX.lamEnv X scope s.heap.objs.size f c'))) (hg : A.guards = some []) : Ctx (LamX.lamCx X A outer s H E scope f c') k (fun c d _ H => E c d H) :=
  ⟨hr, hg, rfl, takes_of rfl rfl rfl rfl, passes_of rfl⟩
theorem ce_gi {x : Str} {i : Int} {pos : Pos} (hm : ∃ t, X.mg x = some (.int i t)) (hg : Gl X x) (hd : (x == ("__debug__" : Str)) = false := by decide) : CE X T W (.Name x pos) (dC (.int i)) := by
  obtain ⟨t, hm⟩ := hm
  exact ce_gint hg hm hd
theorem ce_gf {x : Str} {F : List PV → Sto → Res PV} {j : Nat} {pos : Pos} (c : FC (wdOf X T) j x F) (hg : Gl X x) (hd : (x == ("__debug__" : Str)) = false := by decide) : CE X T W (.Name x pos) (dC (.glb x)) := by
  obtain ⟨f, hm, _⟩ := c.ex
  exact ce_gfn hg hm hd
theorem ce_ge {x : Str} {pos : Pos} (c : EC X.K X.mg x) (hg : Gl X x) (hd : (x == ("__debug__" : Str)) = false := by decide) : CE X T W (.Name x pos) (dC (.glb x)) := by
  obtain ⟨f, hm, _⟩ := c.ex
  exact ce_gfn hg hm hd
abbrev sLe (a b : List Nat) : Bool := !decide (b < a)
abbrev sLt (a b : List Nat) : Bool := decide (a < b)
theorem sn_cmpS (f : List Nat → List Nat → Bool) : Snd (gm X T) (fun x y H Q => ∃ i j, x = .str i ∧ y = .str j ∧ Q (.bl (f i.cps.toList j.cps.toList)) H) (fCmpS f) := by
  intro W σ m S H x y v u Q hS rx ry p
  unfold fCmpS at p
  split at p
  · cases rep_str rx
    cases rep_str ry
    exact ⟨_, _, rfl, rfl, p.here hS (mk_bl _)⟩
  · exact p.elim
end
/-! the built-in names, one by one -/
section
variable {mg : Str → Option Value}
theorem Bi.b_len (B : Bi mg) : mg "len" = none := B.get (by decide)
theorem Bi.b_isinstance (B : Bi mg) : mg "isinstance" = none := B.get (by decide)
theorem Bi.b_abs (B : Bi mg) : mg "abs" = none := B.get (by decide)
theorem Bi.b_int (B : Bi mg) : mg "int" = none := B.get (by decide)
theorem Bi.b_tuple (B : Bi mg) : mg "tuple" = none := B.get (by decide)
theorem Bi.b_list (B : Bi mg) : mg "list" = none := B.get (by decide)
theorem Bi.b_str (B : Bi mg) : mg "str" = none := B.get (by decide)
theorem Bi.b_bool (B : Bi mg) : mg "bool" = none := B.get (by decide)
theorem Bi.b_all (B : Bi mg) : mg "all" = none := B.get (by decide)
theorem Bi.b_any (B : Bi mg) : mg "any" = none := B.get (by decide)
theorem Bi.b_zip (B : Bi mg) : mg "zip" = none := B.get (by decide)
theorem Bi.b_range (B : Bi mg) : mg "range" = none := B.get (by decide)
theorem Bi.b_repr (B : Bi mg) : mg "repr" = none := B.get (by decide)
theorem Bi.b_max (B : Bi mg) : mg "max" = none := B.get (by decide)
theorem Bi.b_min (B : Bi mg) : mg "min" = none := B.get (by decide)
theorem Bi.b_enumerate (B : Bi mg) : mg "enumerate" = none := B.get (by decide)
theorem Bi.b_sorted (B : Bi mg) : mg "sorted" = none := B.get (by decide)
theorem Bi.b_sum (B : Bi mg) : mg "sum" = none := B.get (by decide)
theorem Bi.b_ValueError (B : Bi mg) : mg "ValueError" = none := B.get (by decide)
end
/-! ### isinstance(error, C) -/
def isF (fs : List (Str × PV)) (isT : PV → Option Bool) : PV → Option Bool := fun t => isT t
theorem ce_isE {X : Cx} {T : Tb} {W : WX} {a D : Addr} {d : Option Addr} {oe : Obj} {pn : List (Addr × Obj)} {isT : PV → Option Bool} {e : Expr} {es : List Expr} {dl : EnP → Sto → Res (List PV)} {p pos : Pos} (h : (ExcC X.K D ∧ IsT X.K X.mg D isT) ∨ ∀ t, isT t = none) (hz : Zc (.ref D) d oe) (hf : ∃ vs, oe.data = .fields vs)
    (hm : X.mg "isinstance" = none) (hg : Gl (X.suite a ((a, oe) :: pn)) "isinstance") (ha : CA (X.suite a ((a, oe) :: pn)) (T.err d) W (e :: es) dl)
    (he : starEach (e :: es) (X.suite a ((a, oe) :: pn)).env = (false, eval e (X.suite a ((a, oe) :: pn)).env) :: starEach es (X.suite a ((a, oe) :: pn)).env := by rfl) (hpl : (backTo pos (starEach es (X.suite a ((a, oe) :: pn)).env)).any (·.1) = false := by rfl) :
    CE (X.suite a ((a, oe) :: pn)) (T.err d) W (.Call (.Name "isinstance" p) (e :: es) [] pos) (dCB (fIsE isT) dl) := by
  rcases h with ⟨hx, ht⟩ | h
  · cases d with
    | none => exact ce_callB (call_isE hx hz hf) (sl_isE ht) hg hm PyProof.Rows.boot_isinstance ha (by decide) (by decide) he hpl
    | some dx => exact ce_callB (call_isEd hx hz hf) (sl_isEd (T := T.err (some dx)) rfl ht) hg hm PyProof.Rows.boot_isinstance ha (by decide) (by decide) he hpl
  · refine ce_callB (r := fun _ _ _ => False) (fun _ _ _ _ _ _ _ _ _ z => z.elim) (fun W σ m S H xs vs Q hS r p => ?_) hg hm PyProof.Rows.boot_isinstance ha (by decide) (by decide) he hpl
    unfold fIsE at p
    split at p
    · rw [h] at p
      exact p.elim
    · exact p.elim
/-- {} -/
def dDict0 : EnP → Sto → Res PV := fun _ S => .ok (.nd [] []) S
theorem ce_dict0 {X : Cx} {T : Tb} {W : WX} {pos : Pos} : CE X T W (.Dict [] [] pos) dDict0 :=
  pe_imp pe_dnewK fun σ H Q ⟨ρ, S, m, hE, hS, p⟩ => fun a ha => by
    refine p m _ _ (step_new ha) (hS.new ha) ?_
    show Rep _ _ _ (.nd [] []) _
    unfold Rep
    exact ⟨a, [], rfl, hS.fresh ha, upd_same, rfl, RepL.nil⟩
/-! ### comprehensions, the block's place handed on -/
abbrev InBlkC (X : Cx) (k : Nat) (scope : Scope) (P : Cx → Prop) : Prop := ∀ (s : Shared) (H : Hp) (C : Addr) (cl : List (Str × Addr)) (fp : List Addr), Ctx (X.blk s H scope (compEnvC scope cl C X.env) fp) k W0 → P (X.blk s H scope (compEnvC scope cl C X.env) fp)
section
variable {X : Cx} {T : Tb} {W : WX} {k : Nat} {elt tg iter : Expr} {ifs : List Expr} {scope : Scope} {own : List (Str × Nat)} {pos spos : Pos} {g : TG} {di : EnP → Sto → Res (List PV)} {f : PV → EnP → Option EnP} {dt : EnP → Sto → Res Bool} {de : EnP → Sto → Res PV}
theorem ce_lcC (mt : Bool) (hb : mt = true → Bare (gm X T)) (C : Ctx X k W) (hN : X.N.Nodup) (hi : CI X T W tg iter di) (ok : BlkOk X.N X.env.scope scope own) (hg : InBlkC X k scope fun Y => PG Y tg g) (hf : TgC (gm X T) (own.map (·.2)) g f)
    (ht : InBlkC X k scope fun Y => PTs Y ifs (tb (gm X T) W0 dt)) (he : InBlkC X k scope fun Y => Mi.CE Y T W0 elt de) (hs : ∀ x, foldedSetIterable iter X.env x = pure x := by intro _; rfl) :
    Mi.CE X T W (.ListComp elt [⟨tg, iter, ifs, 0⟩] scope pos) (dLc mt di f dt de (own.map (·.2))) :=
  ce_lc mt hb C.calm hN hi ok (fun s H A cl fp => hg s H A cl fp C.blk) hf (fun s H A cl fp => ht s H A cl fp C.blk) (fun s H A cl fp => he s H A cl fp C.blk) hs
theorem cs_lcC (mt : Bool) (hb : mt = true → Bare (gm X T)) {i : Nat} {y : Str} {py : Pos} (C : Ctx X k W) (hN : X.N.Nodup) (hy : X.N[i]? = some y) (hyl : X.env.scope.names.lookup y = some .local)
    (hsw : swapsWith (.ListComp elt [⟨tg, iter, ifs, 0⟩] scope pos) (some (.Name y py)) spos.line X.env = pure true) (hi : CI X T W tg iter di) (ok : BlkOk X.N X.env.scope scope own) (hg : InBlkC X k scope fun Y => PG Y tg g) (hf : TgC (gm X T) (own.map (·.2)) g f)
    (ht : InBlkC X k scope fun Y => PTs Y ifs (tb (gm X T) W0 dt)) (he : InBlkC X k scope fun Y => Mi.CE Y T W0 elt de) (hs : ∀ x, foldedSetIterable iter X.env x = pure x := by intro _; rfl) :
    CS X T W (.Assign [.Name y py] (.ListComp elt [⟨tg, iter, ifs, 0⟩] scope pos) spos) (dSet i (dLc mt di f dt de (own.map (·.2)))) :=
  cs_lc mt hb C.calm hN hy hyl hsw hi ok (fun s H A cl fp => hg s H A cl fp C.blk) hf (fun s H A cl fp => ht s H A cl fp C.blk) (fun s H A cl fp => he s H A cl fp C.blk) hs
end
theorem FC.mono {Z : Wd} {j k : Nat} {x : Str} {F : List PV → Sto → Res PV} (h : FC Z j x F) (hjk : j ≤ k) : FC Z k x F := by
  obtain ⟨f, h1, h2, h3⟩ := h.ex
  exact ⟨f, h1, h2, h3.mono hjk⟩
end Mi
end
section
set_option Elab.async false
set_option linter.all false
set_option maxRecDepth 100000
set_option maxHeartbeats 2000000
namespace Mi
open PySem PySem.Spec PyProof.Rows L2

/-! ### errors, by tables -/
def catN (names : List Str) (c : Str) : Option Bool := if c ∈ names then some true else none
def isTab (P : List (Str × Str × Bool)) (names : List Str) (c : Str) : PV → Option Bool
  | .glb x => (P.find? fun p => p.1 == c && p.2.1 == x).map fun p => p.2.2
  | .ty n => if n = "ValueError" ∧ c ∈ names then some true else none
  | _ => none
section
variable {K : PySem.W.Frag} {mg : Str → Option Value} {P : List (Str × Str × Bool)} {names : List Str}
/-- the classes of errors, with their addresses -/
structure ErrA (K : PySem.W.Frag) (mg : Str → Option Value) (l : List (Str × Addr)) : Prop where
  at_ : ∀ p ∈ l, mg p.1 = some (.ref p.2)
theorem cat_mk {l : List (Str × Addr)} {CR : Addr} (hl : names = l.map (·.1)) (A : ErrA K mg l) (h : ∀ p ∈ l, PySem.W.exmOne K (.ref p.2) (.ref CR) = some true) : ∀ c b, catN names c = some b → ∀ C, mg c = some (.ref C) → PySem.W.exmOne K (.ref C) (.ref CR) = some b := fun c b e C hc => by
  unfold catN at e
  split at e
  · rename_i hm
    cases e
    rw [hl] at hm
    obtain ⟨p, hp, rfl⟩ := List.mem_map.mp hm
    have q := A.at_ p hp
    rw [hc] at q
    cases q
    exact h p hp
  · cases e
theorem isE_mk {l : List (Str × Addr)} (hl : names = l.map (·.1)) (A : ErrA K mg l) (hP1 : ∀ p ∈ P, p.1 ∈ names) (hx : ∀ p ∈ l, ExcC K p.2)
    (hk : ∀ p ∈ P, ∀ C D, (p.1, C) ∈ l → (p.2.1, D) ∈ l → PySem.W.kitOne K (.ref C) (.ref D) = some p.2.2) (hP2 : ∀ p ∈ P, p.2.1 ∈ names) (hv : ∀ p ∈ l, PySem.W.kitOne K (.ref p.2) (.type "ValueError") = some true) :
    ∀ c C fs (d : Option Addr), mg c = some (.ref C) → (fs = [] → d = none) → (ExcC K C ∧ IsT K mg C (isF fs (isTab P names c))) ∨ ∀ t, isF fs (isTab P names c) t = none := by
  intro c C fs d hc hd
  have look : ∀ n, n ∈ names → ∀ A', mg n = some (.ref A') → (n, A') ∈ l := fun n hn A' hA => by
    rw [hl] at hn
    obtain ⟨p, hp, rfl⟩ := List.mem_map.mp hn
    have q := A.at_ p hp
    rw [hA] at q
    cases q
    exact hp
  by_cases hm : c ∈ names
  · refine .inl ⟨hx (c, C) (look c hm C hc), ⟨fun x b e D hD => ?_, fun n b e => ?_, fun t h1 h2 => ?_⟩⟩
    · have e : (P.find? fun p => p.1 == c && p.2.1 == x).map (fun p => p.2.2) = some b := e
      cases ef : P.find? fun p => p.1 == c && p.2.1 == x with
      | none => rw [ef] at e; cases e
      | some p =>
        rw [ef] at e
        cases e
        have hp := List.mem_of_find?_eq_some ef
        have h0 := List.find?_some ef
        simp only [Bool.and_eq_true, beq_iff_eq] at h0
        obtain ⟨h1, h2⟩ := h0
        subst h1 h2
        exact hk p hp C D (look _ hm C hc) (look _ (hP2 p hp) D hD)
    · have e : (if n = "ValueError" ∧ c ∈ names then some true else none) = some b := e
      split at e
      · rename_i h
        cases e
        rw [h.1]
        exact hv (c, C) (look c hm C hc)
      · cases e
    · cases t with
      | glb x => exact absurd rfl (h1 x)
      | ty n => exact absurd rfl (h2 n)
      | _ => rfl
  · refine .inr fun t => ?_
    cases t with
    | glb x =>
      show (P.find? fun p => p.1 == c && p.2.1 == x).map (fun p => p.2.2) = none
      have : (P.find? fun p => p.1 == c && p.2.1 == x) = none := List.find?_eq_none.mpr fun p hp q => by
        simp only [Bool.and_eq_true, beq_iff_eq] at q
        exact hm (q.1 ▸ hP1 p hp)
      rw [this]
      rfl
    | ty n =>
      show (if n = "ValueError" ∧ c ∈ names then some true else none) = none
      exact if_neg fun h => hm h.2
    | _ => rfl
end
/-! ### what the head's written part tells -/
section
variable {K : PySem.W.Frag} {mg : Str → Option Value} {h : Heap}
theorem bi_mk (X : K.In h) (G : h.Ns mainGlobals mg) (e : (biNames.all fun x => match PySem.W.nsIn K mainGlobals x with | some none => true | _ => false) = true) : Bi mg := ⟨fun {x} hx => by
  have q := List.all_eq_true.mp e x hx
  cases z : PySem.W.nsIn K mainGlobals x with
  | none => rw [z] at q; cases q
  | some v =>
    cases v with
    | none => exact PySem.W.mg_none_of X G z
    | some v => rw [z] at q; cases q⟩
theorem int_mk {x : Str} {i : Int} {t : Tok} (X : K.In h) (G : h.Ns mainGlobals mg) (e : PySem.W.nsIn K mainGlobals x = some (some (.int i t))) : ∃ t, mg x = some (.int i t) := ⟨t, PySem.W.mg_of X G e⟩
theorem loose_mk {p : Program} {x : Str} {i : Int} {lv : List (Str × PySem.W.WData)} (XX : PySem.W.XL p lv mg h) (hx : (x, PySem.W.WData.int i) ∈ lv) : ∃ t, mg x = some (.int i t) := by
  obtain ⟨v, e, r⟩ := XX.2.val _ hx
  cases r with
  | int => exact ⟨_, e⟩
theorem def_mk {P : Program} {w : World} {base : Heap} {T : Tb} {x : Str} {st : Stmt} {f : Addr} {oc : Value} {od an : Option Addr} {osl : Array (Option Value)} {kV doc pm cdv ct : Value} (X : K.In h) (G : h.Ns mainGlobals mg)
    (a : PySem.W.nsIn K mainGlobals x = some (some (.ref f))) (l : K.lookup f = some ⟨oc, od, .func (PySem.W.fnOf x x (defArgs st) (defBody st) (defScope st) .none kV doc pm an cdv ct), osl⟩) (c : PySem.W.codeIn K cdv x = true) (k : PySem.W.keepIn K (.ref f) = true) :
    DefOk ⟨P, w, K, mg, base, T⟩ x st := ⟨f, cdv, PySem.W.mg_of X G a, k, ⟨⟨oc, od, kV, doc, pm, an, ct, osl, l⟩, c⟩⟩
theorem defC_mk {P : Program} {w : World} {base : Heap} {T : Tb} {x : Str} {st : Stmt} {f cA : Addr} {oc : Value} {od an : Option Addr} {osl : Array (Option Value)} {kV doc pm ct : Value} (X : K.In h) (G : h.Ns mainGlobals mg)
    (a : PySem.W.nsIn K mainGlobals x = some (some (.ref f))) (l : K.lookup f = some ⟨oc, od, .func (PySem.W.fnOf x x (defArgs st) (defBody st) (defScope st) .none kV doc pm an (.ref cA) ct), osl⟩) (c : PySem.W.codeIn K (.ref cA) x = true) (k : PySem.W.keepIn K (.ref f) = true) :
    DefOkC ⟨P, w, K, mg, base, T⟩ x st cA := ⟨f, PySem.W.mg_of X G a, k, ⟨⟨oc, od, kV, doc, pm, an, ct, osl, l⟩, c⟩⟩
theorem ec_mk {x : Str} {C : Addr} (X : K.In h) (G : h.Ns mainGlobals mg) (a : PySem.W.nsIn K mainGlobals x = some (some (.ref C))) (k : PySem.W.keepIn K (.ref C) = true) (q : PySem.W.excIn K C veMro "ValueError.__new__" = true)
    (s : PySem.W.subIn K (.ref C) (.type "BaseException") = some true) (t : PySem.W.typeIn K (.ref C) = some (.type "type")) (e : ExcC K C) : EC K mg x := ⟨C, PySem.W.mg_of X G a, k, q, s, t, e⟩
end
/-! ### all of the errors at once -/
def excB (K : PySem.W.Frag) (C : Addr) : Bool :=
  decide (PySem.W.findIn K (.ref C) "__getattribute__" = some (some (.builtin "BaseException.__getattribute__"))) && decide (PySem.W.findIn K (.ref C) "__getattr__" = some none) && decide (PySem.W.subIn K (.ref C) (.type "BaseException") = some true) && PySem.W.hasDictIn K C &&
    decide (PySem.W.findIn K (.ref C) "__class__" = some (some (.builtin "object.__class__"))) && decide (PySem.W.specialIn K (.builtin "object.__class__") "__get__" = some (some (.builtin "getset_descriptor.__get__"))) && decide (PySem.W.takesIn K (.builtin "object.__class__") = some true) && decide (PySem.W.mroIn K C (.type "object") = some true)
theorem excB_mk {K : PySem.W.Frag} {C : Addr} (h : excB K C = true) : ExcC K C := by
  unfold excB at h
  simp only [Bool.and_eq_true, decide_eq_true_eq] at h
  obtain ⟨⟨⟨⟨⟨⟨⟨h1, h2⟩, h3⟩, h4⟩, h5⟩, h6⟩, h7⟩, h8⟩ := h
  exact ⟨h1, h2, h3, h4, h5, h6, h7, h8⟩
def errB (K : PySem.W.Frag) (l : List (Str × Addr)) (P : List (Str × Str × Bool)) (CR : Addr) (F : List Str) : Bool :=
  (l.all fun p => decide (PySem.W.nsIn K mainGlobals p.1 = some (some (.ref p.2))) && PySem.W.keepIn K (.ref p.2) && (decide (p.1 ∈ F) || PySem.W.excIn K p.2 veMro "ValueError.__new__") && decide (PySem.W.typeIn K (.ref p.2) = some (.type "type")) && excB K p.2 &&
      decide (PySem.W.exmOne K (.ref p.2) (.ref CR) = some true) && decide (PySem.W.kitOne K (.ref p.2) (.type "ValueError") = some true)) &&
    P.all fun p => l.all fun c => l.all fun d => !(c.1 == p.1 && d.1 == p.2.1) || decide (PySem.W.kitOne K (.ref c.2) (.ref d.2) = some p.2.2)
structure ErrAll (K : PySem.W.Frag) (mg : Str → Option Value) (l : List (Str × Addr)) (P : List (Str × Str × Bool)) (CR : Addr) (F : List Str) : Prop where
  ec : ∀ p ∈ l, p.1 ∉ F → EC K mg p.1
  at_ : ErrA K mg l
  cat : ∀ c b, catN (l.map (·.1)) c = some b → ∀ C, mg c = some (.ref C) → PySem.W.exmOne K (.ref C) (.ref CR) = some b
  isE : ∀ c C fs (d : Option Addr), mg c = some (.ref C) → (fs = [] → d = none) → (ExcC K C ∧ IsT K mg C (isF fs (isTab P (l.map (·.1)) c))) ∨ ∀ t, isF fs (isTab P (l.map (·.1)) c) t = none
theorem errs_mk {K : PySem.W.Frag} {mg : Str → Option Value} {h : Heap} {l : List (Str × Addr)} {P : List (Str × Str × Bool)} {CR : Addr} (F : List Str) (X : K.In h) (G : h.Ns mainGlobals mg) (e : errB K l P CR F = true) (hP : (P.all fun p => decide (p.1 ∈ l.map (·.1)) && decide (p.2.1 ∈ l.map (·.1))) = true) : ErrAll K mg l P CR F := by
  unfold errB at e
  simp only [Bool.and_eq_true, Bool.or_eq_true, List.all_eq_true, decide_eq_true_eq] at e hP
  obtain ⟨e1, e2⟩ := e
  have hA : ErrA K mg l := ⟨fun p hp => PySem.W.mg_of X G (e1 p hp).1.1.1.1.1.1⟩
  refine ⟨fun p hp hF => ?_, hA, cat_mk rfl hA fun p hp => (e1 p hp).1.2, isE_mk rfl hA (fun p hp => (hP p hp).1) (fun p hp => excB_mk (e1 p hp).1.1.2) (fun p hp C D hc hd => ?_) (fun p hp => (hP p hp).2) fun p hp => (e1 p hp).2⟩
  · obtain ⟨⟨⟨⟨⟨⟨h1, h2⟩, h3⟩, h4⟩, h5⟩, h6⟩, h7⟩ := e1 p hp
    exact ec_mk X G h1 h2 (h3.resolve_left hF) (excB_mk h5).hs h4 (excB_mk h5)
  · have q := e2 p hp (p.1, C) hc (p.2.1, D) hd
    simpa using q
end Mi
end
section
set_option Elab.async false
set_option linter.all false
set_option maxRecDepth 100000
set_option maxHeartbeats 2000000
namespace Mi
open PySem PySem.Spec PyProof.Rows L2

/-! ### comprehensions of two clauses -/
def lcP2 (f : PV → EnP → Option EnP) (dt : EnP → Sto → Res Bool) (di1 : EnP → Sto → Res (List PV)) (f1 : PV → EnP → Option EnP) (dt1 : EnP → Sto → Res Bool) (de : EnP → Sto → Res PV) (vs1 : List Nat) (ρ : EnP) : List PV → List PV → Sto → Res (List PV)
  | [], acc, S => .ok acc S
  | x :: xs, acc, S => match f x ρ with
    | none => .bad
    | some ρ1 => (match dt ρ1 S with
      | .ok true S1 => (match di1 ρ1 S1 with
        | .ok items1 S2 => (lcP f1 dt1 de (wipeP ρ1 vs1) items1 acc S2).bind fun acc' S3 => lcP2 f dt di1 f1 dt1 de vs1 ρ xs acc' S3
        | _ => .bad)
      | .ok false S1 => lcP2 f dt di1 f1 dt1 de vs1 ρ xs acc S1
      | _ => .bad)
def dLc2 (mt : Bool) (di : EnP → Sto → Res (List PV)) (f : PV → EnP → Option EnP) (dt : EnP → Sto → Res Bool) (di1 : EnP → Sto → Res (List PV)) (f1 : PV → EnP → Option EnP) (dt1 : EnP → Sto → Res Bool) (de : EnP → Sto → Res PV) (vs vs1 : List Nat) : EnP → Sto → Res PV := fun ρ S =>
  (di ρ S).bind fun items S1 => (lcP2 f dt di1 f1 dt1 de vs1 (wipeP ρ vs) items [] S1).bind fun acc S2 => mkLst mt acc S2
theorem lc2_sound {X : Cx} {T : Tb} {W : WX} {wi wi1 : TI} {g g1 : TG} {tt tt1 : TT} {te : TE} {vs vs1 : List Nat} {di di1 : EnP → Sto → Res (List PV)} {f f1 : PV → EnP → Option EnP} {dt dt1 : EnP → Sto → Res Bool} {de : EnP → Sto → Res PV} (mt : Bool) (hb : mt = true → Bare (gm X T))
    (hi : ∀ σ H R, tr (gm X T) W (fun m' H' items J => ItOk (gm X T) J items m' H') di σ H R → wi σ H R) (hg : TgC (gm X T) vs g f)
    (ht : ∀ σ H Q, tb (gm X T) W0 dt σ H Q → tt σ H Q) (hi1 : ∀ σ H R, tr (gm X T) W0 (fun m' H' items J => ItOk (gm X T) J items m' H') di1 σ H R → wi1 σ H R) (hg1 : TgC (gm X T) vs1 g1 f1)
    (ht1 : ∀ σ H Q, tb (gm X T) W0 dt1 σ H Q → tt1 σ H Q) (he : ∀ σ H Q, tv (gm X T) W0 de σ H Q → te σ H Q) {σ : L2.St} {H : Hp} {Q : VK} (h : tv (gm X T) W (dLc2 mt di f dt di1 f1 dt1 de vs vs1) σ H Q) : tLc2 wi g tt wi1 g1 tt1 te vs vs1 σ H Q := by
  obtain ⟨ρ, S, m, hE, hS, p⟩ := h
  refine hi _ _ _ (tr_bind (f := fun items ρ S1 => (lcP2 f dt di1 f1 dt1 de vs1 (wipeP ρ vs) items [] S1).bind fun acc S2 => mkLst mt acc S2) hE hS p fun items S1 m1 H1 J s1 hE1 hS1 hJ p1 D hD => ?_)
  have D1 : D ∉ m1.ex := (hS1.fresh hD).2
  refine ⟨fun i n H => ∃ S m acc avs, Step m1 H1 m H ∧ D ∈ m.ex ∧ H D = some (HO.lst avs) ∧ RepL (gm X T) m H acc avs ∧ RelS (gm X T) m S H ∧ RelE (gm X T) m H (wipeP ρ vs) (wipe σ vs) ∧ (n = items.length - i ∧ i ≤ items.length) ∧ PostV (gm X T) W σ m1 H1 Q ((lcP2 f dt di1 f1 dt1 de vs1 (wipeP ρ vs) (items.drop i) acc S).bind fun acc S2 => mkLst mt acc S2),
    ⟨_, S1, m1.open_ D, [], [], step_open hD, List.mem_cons_self, upd_same, RepL.nil, hS1.open_ hD, (hE1.wipe vs).step (step_open hD), ⟨rfl, Nat.zero_le _⟩, p1⟩, ?_⟩
  rintro i n H2 ⟨S2, m2, acc, avs, s2, hm2, hD2, ra, hS2, hE2, ⟨rfl, hle⟩, p2⟩
  by_cases hlt : i < items.length
  · right
    have ei : items[i]? = some items[i] := List.getElem?_eq_getElem hlt
    obtain ⟨hgo, hy⟩ := hJ.go m2 H2 S2 i items[i] s2.emb hS2 ei
    refine ⟨hgo, fun H => ∃ S m acc avs, Step m1 H1 m H ∧ D ∈ m.ex ∧ H D = some (HO.lst avs) ∧ RepL (gm X T) m H acc avs ∧ RelS (gm X T) m S H ∧ RelE (gm X T) m H (wipeP ρ vs) (wipe σ vs) ∧ PostV (gm X T) W σ m1 H1 Q ((lcP2 f dt di1 f1 dt1 de vs1 (wipeP ρ vs) (items.drop (i + 1)) acc S).bind fun acc S2 => mkLst mt acc S2),
      fun H' ⟨S', m', acc', avs', a, b, c, d, e, f1, k⟩ => ⟨items.length - (i + 1), by omega, S', m', acc', avs', a, b, c, d, e, f1, ⟨rfl, hlt⟩, k⟩, fun v H3 y => ?_⟩
    obtain ⟨s3, hS3, hr3⟩ := hy v H3 y
    rw [List.drop_eq_getElem_cons hlt] at p2
    unfold lcP2 at p2
    have D2 : D ∉ m2.ix := (hS2.exs D hm2).1
    have lstk : ∀ {m' H'}, Step m2 H2 m' H' → D ∈ m'.ex ∧ H' D = some (HO.lst avs) := fun s => ⟨s.exo D hm2, s.keep D _ D2 hD2 nt_lst⟩
    have hE3 := hE2.step s3
    cases ef : f items[i] (wipeP ρ vs) with
    | none => rw [ef] at p2; exact p2.elim
    | some ρ1 =>
      simp only [ef] at p2
      refine hg m2 H3 items[i] v (wipeP ρ vs) ρ1 (wipe σ vs) _ hr3 hE3 ef fun σ' w hE' => ⟨by rw [w, wipe_wipe], ?_⟩
      refine ht _ _ _ ⟨ρ1, S2, m2, hE', hS3, ?_⟩
      cases et : dt ρ1 S2 with
      | bad => simp only [et] at p2; exact p2.elim
      | exc c fs S3 => simp only [et] at p2; exact p2.elim
      | ok b S3 =>
        simp only [et] at p2
        intro m4 H4 b' s4 hS4 eb
        cases eb
        have s24 := s3.trans s4
        cases b with
        | false =>
          rw [if_neg Bool.false_ne_true]
          exact ⟨S3, m4, acc, avs, s2.trans s24, (lstk s24).1, (lstk s24).2, RepL.step s24 _ _ ra, hS4, hE2.step s24, p2⟩
        | true =>
          rw [if_pos rfl]
          refine hi1 _ _ _ ⟨ρ1, S3, m4, hE'.step s4, hS4, ?_⟩
          cases e1 : di1 ρ1 S3 with
          | bad => simp only [e1] at p2; exact p2.elim
          | exc c fs S5 => simp only [e1] at p2; exact p2.elim
          | ok items1 S5 =>
            simp only [e1] at p2
            intro m5 H5 J1 s5 hS5 hJ1
            have s25 := s24.trans s5
            have k5 := lstk s25
            have hE5 : RelE (gm X T) m5 H5 (wipeP ρ1 vs1) (wipe σ' vs1) := ((hE'.step s4).step s5).wipe vs1
            refine ⟨fun j k H => ∃ S m acc avs, Emb m5 H5 m H ∧ D ∈ m.ex ∧ H D = some (HO.lst avs) ∧ Step m1 H1 m H ∧ RepL (gm X T) m H acc avs ∧ RelS (gm X T) m S H ∧ RelE (gm X T) m H (wipeP ρ1 vs1) (wipe σ' vs1) ∧ RelE (gm X T) m H (wipeP ρ vs) (wipe σ vs) ∧ (k = items1.length - j ∧ j ≤ items1.length) ∧
                PostV (gm X T) W σ m1 H1 Q (((lcP f1 dt1 de (wipeP ρ1 vs1) (items1.drop j) acc S).bind fun acc' S3 => lcP2 f dt di1 f1 dt1 de vs1 (wipeP ρ vs) (items.drop (i + 1)) acc' S3).bind fun acc S2 => mkLst mt acc S2),
              ⟨_, S5, m5, acc, avs, (Step.refl _ _).emb, k5.1, k5.2, s2.trans s25, RepL.step s25 _ _ ra, hS5, hE5, hE2.step s25, ⟨rfl, Nat.zero_le _⟩, p2⟩, ?_⟩
            rintro j k H6 ⟨S6, m6, acc6, avs6, s6, hm6, hD6, s16, ra6, hS6, hE6, hE6', ⟨rfl, hle6⟩, p6⟩
            by_cases hlt6 : j < items1.length
            · right
              have ej : items1[j]? = some items1[j] := List.getElem?_eq_getElem hlt6
              obtain ⟨hgo1, hy1⟩ := hJ1.go m6 H6 S6 j items1[j] s6 hS6 ej
              refine ⟨hgo1, fun H => ∃ S m acc avs, Emb m5 H5 m H ∧ D ∈ m.ex ∧ H D = some (HO.lst avs) ∧ Step m1 H1 m H ∧ RepL (gm X T) m H acc avs ∧ RelS (gm X T) m S H ∧ RelE (gm X T) m H (wipeP ρ1 vs1) (wipe σ' vs1) ∧ RelE (gm X T) m H (wipeP ρ vs) (wipe σ vs) ∧
                  PostV (gm X T) W σ m1 H1 Q (((lcP f1 dt1 de (wipeP ρ1 vs1) (items1.drop (j + 1)) acc S).bind fun acc' S3 => lcP2 f dt di1 f1 dt1 de vs1 (wipeP ρ vs) (items.drop (i + 1)) acc' S3).bind fun acc S2 => mkLst mt acc S2),
                fun H' ⟨S', m', acc', avs', a, b, c, d, e, f1', f2, f3, k⟩ => ⟨items1.length - (j + 1), by omega, S', m', acc', avs', a, b, c, d, e, f1', f2, f3, ⟨rfl, hlt6⟩, k⟩, fun v H7 y => ?_⟩
              obtain ⟨s7, hS7, hr7⟩ := hy1 v H7 y
              rw [List.drop_eq_getElem_cons hlt6] at p6
              unfold lcP at p6
              have D6 : D ∉ m6.ix := (hS6.exs D hm6).1
              have lstk6 : ∀ {m' H'}, Step m6 H6 m' H' → D ∈ m'.ex ∧ H' D = some (HO.lst avs6) := fun s => ⟨s.exo D hm6, s.keep D _ D6 hD6 nt_lst⟩
              have hE7 := hE6.step s7
              cases ef1 : f1 items1[j] (wipeP ρ1 vs1) with
              | none => rw [ef1] at p6; exact p6.elim
              | some ρ2 =>
                simp only [ef1] at p6
                refine hg1 m6 H7 items1[j] v (wipeP ρ1 vs1) ρ2 (wipe σ' vs1) _ hr7 hE7 ef1 fun σ2 w2 hE2' => ⟨by rw [w2, wipe_wipe], ?_⟩
                refine ht1 _ _ _ ⟨ρ2, S6, m6, hE2', hS7, ?_⟩
                cases et1 : dt1 ρ2 S6 with
                | bad => simp only [et1] at p6; exact p6.elim
                | exc c fs S3 => simp only [et1] at p6; exact p6.elim
                | ok b S8 =>
                  simp only [et1] at p6
                  intro m8 H8 b' s8 hS8 eb
                  cases eb
                  have s68 := s7.trans s8
                  cases b with
                  | false =>
                    rw [if_neg Bool.false_ne_true]
                    exact ⟨S8, m8, acc6, avs6, s6.trans s68.emb, (lstk6 s68).1, (lstk6 s68).2, s16.trans s68, RepL.step s68 _ _ ra6, hS8, hE6.step s68, hE6'.step s68, p6⟩
                  | true =>
                    rw [if_pos rfl]
                    refine he _ _ _ ⟨ρ2, S8, m8, hE2'.step s8, hS8, ?_⟩
                    cases ee : de ρ2 S8 with
                    | bad => simp only [ee] at p6; exact p6.elim
                    | exc c fs S5 => simp only [ee] at p6; exact p6.elim
                    | ok y9 S9 =>
                      simp only [ee] at p6
                      by_cases hz : acc6.length < lim
                      · rw [if_pos hz] at p6
                        intro m9 H9 w9 s9 hS9 hr9
                        have s69 := s68.trans s9
                        have k9 := lstk6 s69
                        have D5 : H5 D = some (HO.lst avs) := k5.2
                        refine ⟨avs6, k9.2, by rw [sizeLine_eq, ← ra6.length]; exact hz, S9, m9, acc6 ++ [y9], avs6 ++ [w9], ?_, k9.1, upd_same, step_ex (s16.trans s69) hD k9.2, ?_, hS9.ex_ k9.1 k9.2, (hE6.step s69).emb (emb_ex k9.1 k9.2), (hE6'.step s69).emb (emb_ex k9.1 k9.2), p6⟩
                        · exact (s6.trans s69.emb).trans (emb_ex k9.1 k9.2)
                        · exact RepL.emb (emb_ex k9.1 k9.2) _ _ ((RepL.step s69 _ _ ra6).append (RepL.cons hr9 RepL.nil))
                      · rw [if_neg hz] at p6; exact p6.elim
            · left
              refine ⟨hJ1.stop m6 H6 S6 j s6 hS6 (by omega), ?_⟩
              rw [List.drop_eq_nil_of_le (by omega)] at p6
              exact ⟨S6, m6, acc6, avs6, s16, hm6, hD6, ra6, hS6, hE6', p6⟩
  · left
    refine ⟨hJ.stop m2 H2 S2 i s2.emb hS2 (by omega), ?_⟩
    rw [List.drop_eq_nil_of_le (by omega)] at p2
    have p3 : PostV (gm X T) W σ m1 H1 Q (mkLst mt acc S2) := p2
    unfold mkLst at p3
    split at p3
    · cases mt with
      | true =>
        refine p3 ((m2.shut D).push D) H2 (.ref D) (step_shutP s2 hD D1) (hS2.shutP (hb rfl) hm2 hD2 ra) ?_
        show Rep _ _ _ (.ref S2.length) _
        unfold Rep
        refine ⟨D, ?_, rfl⟩
        show (m2.ix ++ [D])[S2.length]? = some D
        rw [List.getElem?_append_right (by rw [hS2.len]; omega), hS2.len]
        simp
      | false =>
        refine p3 (m2.shut D) H2 (.ref D) (step_shut s2 D1) (hS2.shut hm2) ?_
        show Rep _ _ _ (.nl acc) _
        unfold Rep
        exact ⟨D, avs, rfl, ⟨(hS2.exs D hm2).1, fun q => (mem_shut.mp q).2 rfl⟩, hD2, RepL.emb (emb_shut hm2) _ _ ra⟩
    · exact p3.elim
section
variable {X : Cx} {T : Tb} {W : WX} {k : Nat} {elt tg iter tg1 iter1 : Expr} {ifs ifs1 : List Expr} {scope : Scope} {own : List (Str × Nat)} {vs1 : List Nat} {pos spos : Pos} {g g1 : TG} {di di1 : EnP → Sto → Res (List PV)} {f f1 : PV → EnP → Option EnP} {dt dt1 : EnP → Sto → Res Bool} {de : EnP → Sto → Res PV}
theorem ce_lc2C (mt : Bool) (hb : mt = true → Bare (gm X T)) (C : Ctx X k W) (hN : X.N.Nodup) (hi : CI X T W tg iter di) (ok : BlkOk X.N X.env.scope scope own) (hv : ∀ i ∈ vs1, i ∈ own.map (·.2)) (hg : InBlkC X k scope fun Y => PG Y tg g) (hf : TgC (gm X T) (own.map (·.2)) g f)
    (ht : InBlkC X k scope fun Y => PTs Y ifs (tb (gm X T) W0 dt)) (hi1 : InBlkC X k scope fun Y => PI Y tg1 iter1 (tr (gm X T) W0 (fun m' H' items J => ItOk (gm X T) J items m' H') di1)) (hg1 : InBlkC X k scope fun Y => PG Y tg1 g1) (hf1 : TgC (gm X T) vs1 g1 f1) (ht1 : InBlkC X k scope fun Y => PTs Y ifs1 (tb (gm X T) W0 dt1))
    (he : InBlkC X k scope fun Y => Mi.CE Y T W0 elt de) (hs : ∀ x, foldedSetIterable iter X.env x = pure x := by intro _; rfl) (hs1 : ∀ env x, foldedSetIterable iter1 env x = pure x := by intro _ _; rfl) :
    Mi.CE X T W (.ListComp elt [⟨tg, iter, ifs, 0⟩, ⟨tg1, iter1, ifs1, 0⟩] scope pos) (dLc2 mt di f dt di1 f1 dt1 de (own.map (·.2)) vs1) :=
  pe_imp (pe_lc2 C.calm hN hi ok hv (fun s H A cl fp => hg s H A cl fp C.blk) (fun s H A cl fp => ht s H A cl fp C.blk) (fun s H A cl fp => hi1 s H A cl fp C.blk) (fun s H A cl fp => hg1 s H A cl fp C.blk) (fun s H A cl fp => ht1 s H A cl fp C.blk) (te := tv (gm X T) W0 de) (fun s H A cl fp => he s H A cl fp C.blk) hs hs1)
    fun σ H Q h => lc2_sound mt hb (fun _ _ _ q => q) hf (fun _ _ _ q => q) (fun _ _ _ q => q) hf1 (fun _ _ _ q => q) (fun _ _ _ q => q) h
theorem cs_lc2C (mt : Bool) (hb : mt = true → Bare (gm X T)) {i : Nat} {y : Str} {py : Pos} (C : Ctx X k W) (hN : X.N.Nodup) (hy : X.N[i]? = some y) (hyl : X.env.scope.names.lookup y = some .local)
    (hsw : swapsWith (.ListComp elt [⟨tg, iter, ifs, 0⟩, ⟨tg1, iter1, ifs1, 0⟩] scope pos) (some (.Name y py)) spos.line X.env = pure true) (hi : CI X T W tg iter di) (ok : BlkOk X.N X.env.scope scope own) (hv : ∀ i ∈ vs1, i ∈ own.map (·.2)) (hg : InBlkC X k scope fun Y => PG Y tg g) (hf : TgC (gm X T) (own.map (·.2)) g f)
    (ht : InBlkC X k scope fun Y => PTs Y ifs (tb (gm X T) W0 dt)) (hi1 : InBlkC X k scope fun Y => PI Y tg1 iter1 (tr (gm X T) W0 (fun m' H' items J => ItOk (gm X T) J items m' H') di1)) (hg1 : InBlkC X k scope fun Y => PG Y tg1 g1) (hf1 : TgC (gm X T) vs1 g1 f1) (ht1 : InBlkC X k scope fun Y => PTs Y ifs1 (tb (gm X T) W0 dt1))
    (he : InBlkC X k scope fun Y => Mi.CE Y T W0 elt de) (hs : ∀ x, foldedSetIterable iter X.env x = pure x := by intro _; rfl) (hs1 : ∀ env x, foldedSetIterable iter1 env x = pure x := by intro _ _; rfl) :
    CS X T W (.Assign [.Name y py] (.ListComp elt [⟨tg, iter, ifs, 0⟩, ⟨tg1, iter1, ifs1, 0⟩] scope pos) spos) (dSet i (dLc2 mt di f dt di1 f1 dt1 de (own.map (·.2)) vs1)) :=
  ps_imp (ps_setLc2 C.calm hN hy hyl hsw hi ok hv (fun s H A cl fp => hg s H A cl fp C.blk) (fun s H A cl fp => ht s H A cl fp C.blk) (fun s H A cl fp => hi1 s H A cl fp C.blk) (fun s H A cl fp => hg1 s H A cl fp C.blk) (fun s H A cl fp => ht1 s H A cl fp C.blk) (te := tv (gm X T) W0 de) (fun s H A cl fp => he s H A cl fp C.blk) hs hs1) fun D σ H ⟨ρ, S, m, hE, hS, p⟩ => by
    refine lc2_sound (W := W) mt hb (fun _ _ _ q => q) hf (fun _ _ _ q => q) (fun _ _ _ q => q) hf1 (fun _ _ _ q => q) (fun _ _ _ q => q) ?_
    exact ts_bind (d := dLc2 mt di f dt di1 f1 dt1 de (own.map (·.2)) vs1) (k := fun v S1 => .nx (ρ.set i (some v)) S1) hE hS p fun v S1 m1 H1 w s1 hE1 hS1 hr p1 => p1.nx_here hS1 (hE1.set i hr)
/-! ### names of the module that hold texts, tuples of constants -/
theorem ce_gS {x : Str} {i : Str} {pos : Pos} (hm : ∃ t, X.mg x = some (.str i t)) (hg : Gl X x) (hd : (x == ("__debug__" : Str)) = false := by decide) : CE X T W (.Name x pos) (dC (.str i)) := by
  obtain ⟨t, hm⟩ := hm
  exact ce_gstr hg hm hd
mutual
/-- the machine's value v of a written part stands for a constant tree -/
def Cst (K : PySem.W.Frag) : PV → Value → Prop
  | .non, v => v = .none
  | .bl b, v => v = .bool b
  | .int i, v => ∃ t, v = .int i t
  | .str s, v => ∃ t, v = .str s t
  | .tup xs, v => ∃ a o its n, v = .ref a ∧ K.lookup a = some o ∧ o.cls = .type "tuple" ∧ o.data = .seq its n ∧ its.size ≤ sizeLine ∧ CstL K xs its.toList
  | _, _ => False
def CstL (K : PySem.W.Frag) : List PV → List Value → Prop
  | [], vs => vs = []
  | x :: xs, vs => ∃ v ws, vs = v :: ws ∧ Cst K x v ∧ CstL K xs ws
end
mutual
theorem Cst.rep {g : Gm} : ∀ (x : PV) (v : Value), Cst g.K x v → ∃ u, RelV u v ∧ ∀ m H, Rep g m H x u
  | .non, v, h => by
    unfold Cst at h; subst h
    exact ⟨.non, rfl, fun _ _ => mk_non⟩
  | .bl b, v, h => by
    unfold Cst at h; subst h
    exact ⟨.bl b, rfl, fun _ _ => mk_bl b⟩
  | .int i, v, h => by
    unfold Cst at h
    obtain ⟨t, rfl⟩ := h
    exact ⟨.int i, ⟨t, rfl⟩, fun _ _ => mk_int i⟩
  | .str s, v, h => by
    unfold Cst at h
    obtain ⟨t, rfl⟩ := h
    exact ⟨.str s, ⟨t, rfl⟩, fun _ _ => mk_str s⟩
  | .tup xs, v, h => by
    unfold Cst at h
    obtain ⟨a, o, its, n, rfl, e1, e2, e3, e4, h⟩ := h
    obtain ⟨us, h1, h2⟩ := CstL.rep xs its.toList h
    exact ⟨.ref a, rfl, fun m H => by
      unfold Rep
      exact ⟨a, us, rfl, .inr ⟨o, its, n, e1, e2, e3, e4, h1⟩, h2 m H⟩⟩
  | .ct _, _, h => by unfold Cst at h; exact h.elim
  | .nl _, _, h => by unfold Cst at h; exact h.elim
  | .fl _, _, h => by unfold Cst at h; exact h.elim
  | .nd _ _, _, h => by unfold Cst at h; exact h.elim
  | .ref _, _, h => by unfold Cst at h; exact h.elim
  | .ty _, _, h => by unfold Cst at h; exact h.elim
  | .glb _, _, h => by unfold Cst at h; exact h.elim
  | .err, _, h => by unfold Cst at h; exact h.elim
  | .lam, _, h => by unfold Cst at h; exact h.elim
theorem CstL.rep {g : Gm} : ∀ (xs : List PV) (vs : List Value), CstL g.K xs vs → ∃ us, Vals us vs ∧ ∀ m H, RepL g m H xs us
  | [], vs, h => by
    unfold CstL at h; subst h
    exact ⟨[], .nil, fun _ _ => RepL.nil⟩
  | x :: xs, vs, h => by
    unfold CstL at h
    obtain ⟨v, ws, rfl, h1, h2⟩ := h
    obtain ⟨u, r1, r2⟩ := Cst.rep x v h1
    obtain ⟨us, r3, r4⟩ := CstL.rep xs ws h2
    exact ⟨u :: us, .cons r1 r3, fun m H => RepL.cons (r2 m H) (r4 m H)⟩
end
theorem ce_gT {x : Str} {c : PV} {pos : Pos} (hm : ∃ v, X.mg x = some v ∧ Cst X.K c v) (hg : Gl X x) (hd : (x == ("__debug__" : Str)) = false := by decide) : CE X T W (.Name x pos) (dC c) := by
  obtain ⟨v, e, h⟩ := hm
  obtain ⟨u, r1, r2⟩ := Cst.rep (g := gm X T) c v h
  exact ce_c (v := u) (pe_glob hg e r1 hd) fun m H => r2 m H
end
/-- a constant tree, as the written part has it -/
def cstB (K : PySem.W.Frag) : Nat → PV → Value → Bool
  | 0, _, _ => false
  | n + 1, c, v => match c, v with
    | .non, .none => true
    | .bl a, .bool b => a == b
    | .int i, .int j _ => i == j
    | .str s, .str u _ => s == u
    | .tup xs, .ref a => (match K.lookup a with
      | some o => (match o.data with
        | .seq its _ => decide (o.cls = .type "tuple") && decide (its.size ≤ sizeLine) && decide (xs.length = its.toList.length) && (xs.zip its.toList).all fun p => cstB K n p.1 p.2
        | _ => false)
      | none => false)
    | _, _ => false
theorem cst_of {K : PySem.W.Frag} : ∀ (n : Nat) (c : PV) (v : Value), cstB K n c v = true → Cst K c v
  | 0, _, _, h => by cases h
  | n + 1, c, v, h => by
    unfold cstB at h
    split at h
    · unfold Cst; rfl
    · unfold Cst; rw [eq_of_beq h]
    · unfold Cst; exact ⟨_, by rw [eq_of_beq h]⟩
    · unfold Cst; exact ⟨_, by rw [eq_of_beq h]⟩
    · rename_i xs a
      split at h
      · rename_i o e1
        split at h
        · rename_i its k e2
          simp only [Bool.and_eq_true, decide_eq_true_eq] at h
          obtain ⟨⟨⟨h1, h2⟩, h3⟩, h4⟩ := h
          unfold Cst
          refine ⟨a, o, its, k, rfl, e1, h1, e2, h2, ?_⟩
          generalize its.toList = vs at h3 h4
          clear e2 h2 e1 h1
          induction xs generalizing vs with
          | nil =>
            cases vs with
            | nil => unfold CstL; rfl
            | cons => cases h3
          | cons x xs ih =>
            cases vs with
            | nil => cases h3
            | cons u vs =>
              simp only [List.zip_cons_cons, List.all_cons, Bool.and_eq_true] at h4
              unfold CstL
              exact ⟨u, vs, rfl, cst_of n x u h4.1, ih vs (by simpa using h3) h4.2⟩
        · cases h
      · cases h
    · cases h
end Mi
end
section
set_option Elab.async false
set_option linter.all false
set_option maxRecDepth 100000
set_option maxHeartbeats 2000000
namespace Mi
open PySem PySem.Spec PyProof.Rows L2

def fAddI : PV → PV → Sto → Res PV
  | .int i, .int j, S => .ok (.int (i + j)) S
  | _, _, _ => .bad
theorem sn_addI {X : Cx} {T : Tb} : Snd (gm X T) (rI0 fun i j => .int (i + j)) fAddI := by
  intro W σ m S H x y v u Q hS rx ry p
  unfold fAddI at p
  split at p
  · rename_i i j
    exact ⟨i, j, rep_int rx, rep_int ry, p.here hS (mk_int _)⟩
  · exact p.elim
section
variable {K : PySem.W.Frag} {mg : Str → Option Value} {h : Heap}
theorem str_mk {x : Str} {i : Str} {t : Tok} (X : K.In h) (G : h.Ns mainGlobals mg) (e : PySem.W.nsIn K mainGlobals x = some (some (.str i t))) : ∃ t, mg x = some (.str i t) := ⟨t, PySem.W.mg_of X G e⟩
theorem cst_mk {x : Str} {c : PV} {v : Value} (X : K.In h) (G : h.Ns mainGlobals mg) (e : PySem.W.nsIn K mainGlobals x = some (some v)) (q : cstB K 9 c v = true) : ∃ v, mg x = some v ∧ Cst K c v := ⟨v, PySem.W.mg_of X G e, cst_of _ _ _ q⟩
end
end Mi
end
section
set_option Elab.async false
set_option linter.all false
set_option maxRecDepth 100000
set_option maxHeartbeats 2000000
namespace Mi
open PySem PySem.Spec PyProof.Rows L2

/-! ### a lambda with one parameter that has an int for its default, handed to a def that calls it without arguments -/
/-- its names: captured ones, globals, and parameters that the maker has no name like -/
structure LamD (sc scope : Scope) (N : List Str) : Prop where
  kind : scope.kind = .function
  co : scope.isCoroutine = false
  gen : scope.isGenerator = false
  own : ∀ y ∈ scope.names, y.2 ≠ .cell ∧ (y.2 = .local → y.1 ∉ N)
  free : ∀ y ∈ scope.names, y.2 = .free → sc.names.lookup y.1 = some .cell ∨ sc.names.lookup y.1 = some .free
theorem LamD.has {X : Cx} {scope : Scope} (L : LamD X.env.scope scope X.N) (ok : X.Ok) : ∀ y ∈ scope.names, y.2 = .free → ∃ c, X.env.cells.lookup y.1 = some c := fun y hy e => (L.free y hy e).elim (fun k => ok.has _ (.inl k)) (fun k => ok.has _ (.inr k))
section
variable {X : Cx} {T : Tb} {pins : List (Addr × Obj)} {σ : L2.St} {H HZ : Hp} {s s1 : Shared}
theorem start_d {A : Around} {outer : List Env} {E : XK} {scope : Scope} {f c' : Addr} {h₁ : Heap} {tk : Nat} {mm : Str → Option Value} (I : Inv X pins σ H s) (L : LamD X.env.scope scope X.N) (e0 : Env0 X.prog X.w X.K X.mg X.base A outer s1 HZ) (hd : A.handled = none)
    (un : Un (frs X.stack) [] H HZ s.heap s1.heap) (hns : h₁.Ns s1.heap.objs.size mm) (kp : ∀ b o, s1.heap.get? b = some o → h₁.get? b = some o) :
    Inv (LamX.lamCx X A outer s1 HZ E scope f c') [] σ HZ { s1 with heap := h₁, toks := tk } := by
  have hfree := L.has I.ok
  have up : ∀ {y c}, (cloFrom X.env.cells scope.names []).lookup y = some c → X.env.cells.lookup y = some c := fun {y c} e => by
    rcases cloFrom_mem (PySem.mem_of_lookup e) with z | ⟨z1, z2⟩
    · cases z
    · obtain ⟨d, hd⟩ := hfree _ z1 rfl
      have hd : X.env.cells.lookup y = some d := hd
      have z2 : c = d := by rw [z2, hd] <;> rfl
      rw [z2]
      exact hd
  have down : ∀ {y}, scope.names.lookup y = some .free → ∃ c, (cloFrom X.env.cells scope.names []).lookup y = some c := fun {y} e =>
    mem_lookup (cloFrom_has (cells := X.env.cells) (acc := []) (show (y, NameKind.free) ∈ scope.names from PySem.mem_of_lookup e))
  have cellK : ∀ {c : Addr} {v : Option Value}, H c = none → s.heap.IsCell c v → h₁.IsCell c v := fun {c v} n ⟨o, ho, hd⟩ => by
    obtain ⟨sl, q⟩ := un.any ho n (by simp)
    exact ⟨_, kp _ _ q, hd⟩
  have noA : ∀ b : Addr, b ∉ (LamX.lamCx X A outer s1 HZ E scope f c').ex := fun b z => absurd (show b ∈ ([] : List Addr) from z) (by simp)
  refine ⟨⟨e0.mod, L.kind, rfl, rfl, Nat.le_refl _, fun y z c e1 e2 => I.ok.inj y z c (up e1) (up e2), fun y hy => ?_, fun y c z _ => ?_, fun _ => hd, Around.frames_deeper e0.frames, .inr ⟨rfl, rfl⟩, fun b z => absurd z (noA b), e0.bs, e0.bsz, fun b _ _ => noA b,
      fun b z => absurd z (noA b), e0.funs, e0.frf⟩,
    rfl, e0.bare, Un.kept kp, ⟨_, hns, fun i y v e1 e2 e3 => ?_⟩, fun y c e => ?_, e0.hok.fresh (Nat.le_refl _), fun y c e => ?_, fun q hq => absurd (show q ∈ ([] : List (Addr × Obj)) ++ [] from hq) (by simp), e0.hok.kept kp, I.len⟩
  · have hy : scope.names.lookup y = some .cell ∨ scope.names.lookup y = some .free := hy
    rcases hy with hy | hy
    · exact absurd rfl (L.own _ (PySem.mem_of_lookup hy)).1
    · exact down hy
  · have z : false = true := z
    cases z
  · have e3 : Vis scope y := e3
    have inN : y ∈ X.N := List.mem_of_getElem? e1
    rcases e3 with k | k | k
    · exact absurd inN ((L.own _ (PySem.mem_of_lookup k)).2 rfl)
    · exact absurd rfl (L.own _ (PySem.mem_of_lookup k)).1
    · obtain ⟨m, hn, hl⟩ := I.loc
      have fr := L.free _ (PySem.mem_of_lookup k) rfl
      have hvis : Vis X.env.scope y := fr.elim (fun k => .inr (.inl k)) (fun k => .inr (.inr k))
      obtain ⟨w', r, q⟩ := hl i y v e1 e2 hvis
      obtain ⟨c2, h2⟩ := down k
      refine ⟨w', r, .inr ⟨.inr k, c2, h2, ?_⟩⟩
      have c1 := up h2
      rcases q with ⟨k', _⟩ | ⟨_, c3, e', z⟩
      · have k' : X.env.scope.names.lookup y = some .local := k'
        rcases fr with k2 | k2 <;> rw [show X.env.scope.names.lookup y = _ from k2] at k' <;> cases k'
      · rw [c1] at e'
        cases e'
        exact cellK (I.freeC y _ c1) z
  · obtain ⟨w', z⟩ := I.cell y c (up e)
    exact ⟨w', cellK (I.freeC y c (up e)) z⟩
  · obtain ⟨v, o, ho, hd⟩ := I.cell y c (up e)
    exact un.free c o ho (I.freeC y c (up e)) (by simp)
abbrev qlam (X : Cx) : Str := X.env.qual ++ "<lambda>"
abbrev objD (X : Cx) (params : Arguments) (body : Expr) (scope : Scope) (t : Addr) (doc pm : Value) (c' : Addr) (ctv : Value) : Obj := PySem.W.kdv_obj "<lambda>" (qlam X) params (.expr body) scope (cloFrom X.env.cells scope.names []) (.ref t) doc pm c' ctv
/-- what is known of the made one: the function, its defaults -/
structure MadeD (X : Cx) (s : Shared) (H : Hp) (f t c' : Addr) (params : Arguments) (body : Expr) (scope : Scope) (i : Int) (doc pm ctv : Value) : Prop where
  o : s.heap.get? f = some (objD X params body scope t doc pm c' ctv)
  fn : H f = none
  fr : f ∉ frs X.stack
  d : ∃ k, s.heap.get? t = some (PySem.W.kdv_tup [.int i k])
  tn : H t = none
  tr : t ∉ frs X.stack
theorem make_d {Ts : List (Addr × Str)} {c P : Addr} {params : Arguments} {body : Expr} {scope : Scope} {pos dp : Pos} {i : Int} {kk : Nat} {E : Value → Shared → Prop} {Q : Value → Shared → Prop} (I : Inv X pins σ H s) (TB : LamX.TabB X.base X.mg c P) (hcode : X.env.code = .ref c)
    (hm : (P, qlam X) ∈ Ts) (hu : ∀ p ∈ Ts, p.1 = P → p.2 = qlam X) (hT : LamX.Tabs Ts H) (hd0 : params.defaults = [.Constant (.int i) kk dp]) (hk0 : params.kw_defaults = []) (hfree : ∀ y ∈ scope.names, y.2 = .free → ∃ c, X.env.cells.lookup y.1 = some c)
    (h : ∀ (f t c' : Addr) (doc pm ctv : Value) (H1 : Hp) (s' : Shared), Inv X pins σ H1 s' → LamX.ExtN H H1 → LamX.Tabs Ts H1 → MadeD X s' H1 f t c' params body scope i doc pm ctv → H1 c' = some (LamX.CodeO c' (qlam X)) → Q (.ref f) s') :
    wpAny (model X.prog X.w) X.A (eval (.Lambda params body scope pos) X.env) Q E s := by
  refine PySem.W.kdv_lam (by rw [hd0]; rfl) hk0 ?_
  rw [hd0]
  refine PySem.W.kdv_all1 (wpAny_Constant_int (PySem.W.kdv_all0 ?_))
  rw [makeFunction_eq]
  simp only [List.zip_nil_right, List.filterMap_nil, List.isEmpty_nil, if_true, pure_bind, List.isEmpty_cons, Bool.false_eq_true, if_false]
  refine wpAny_bind (wpAny_newTextTuple ?_)
  have nofr : ∀ f, s.heap.objs.size ≤ f → f ∉ frs X.stack := fun f hf z => by
    rcases List.mem_cons.mp (I.stkSub _ z) with e | e
    · have h1 := I.lt
      rw [← e] at h1
      exact Nat.lt_irrefl _ (Nat.lt_of_lt_of_le h1 hf)
    · exact I.nofs hf e
  -- the tuple of the defaults
  generalize es0 : ({ s with heap := s.heap.push { cls := .type "tuple", data := .seq [Value.int i s.toks].toArray }, toks := s.toks + 1 } : Shared) = s0
  have I0 : Inv X pins σ H s0 := by rw [← es0]; exact I.kept fun b o e => Heap.get?_push_of_some _ e
  have hs0 : s0.heap = s.heap.push { cls := .type "tuple", data := .seq [Value.int i s.toks].toArray } := by rw [← es0]
  have sz0 : s.heap.objs.size < s0.heap.objs.size := by rw [hs0, Heap.size_push]; omega
  have tN : H s.heap.objs.size = none := I.hok.fresh (Nat.le_refl _)
  have tG : s0.heap.get? s.heap.objs.size = some (PySem.W.kdv_tup [.int i s.toks]) := by rw [hs0]; exact Heap.get?_push_size _ rfl
  obtain ⟨ps, hP, ht, ha⟩ := hT _ hm
  have bP : s0.heap.BuiltinsAt X.mg P := TB.bm.keeps I0.bk
  have hP' : s0.heap.get? P = some { cls := .none, data := .fields ps } := I0.hok P _ hP
  have tP : s.heap.objs.size ≠ P := fun z => by
    rw [z] at tN
    rw [tN] at hP
    cases hP
  cases hc : codeAmong pos ps.toList with
  | none =>
    refine PySem.W.kdv_makeTail (mg := X.mg) (c := c) (P := P) (ps := ps) (closure_ok hfree) I0.ok.glob (I0.mod.glob.keeps I0.bk) hcode (TB.code.keeps I0.bk) hP' ht hc TB.gP bP fun c' ctv doc h' tk hx hge hlt hrec htb => ?_
    obtain ⟨c2, oc, vs, t, e2, hoc, hd, hv⟩ := hrec
    cases e2
    have hsz : s0.heap.objs.size ≤ h'.objs.size := Nat.le_trans hge (Nat.le_of_lt hlt)
    have nC : H c' = none := I0.hok.fresh hge
    have I1 := LamX.inv_table (t' := tk) (more := #[rawInt pos.line, rawInt pos.col, .ref c']) (h' := h'.push (objD X params body scope s.heap.objs.size doc ((X.mg "__name__").getD .none) c' ctv)) I0 hP
      (fun b o hb e => Heap.get?_push_of_some _ (hx b o hb e)) (Heap.get?_push_of_some _ htb) hge ⟨oc, vs, t, Heap.get?_push_of_some _ hoc, hd, hv⟩
    have hE : LamX.ExtN H (upd (upd H P (.tbl (ps ++ #[rawInt pos.line, rawInt pos.col, .ref c']))) c' (LamX.CodeO c' (qlam X))) := fun b o e n => by
      rw [upd_ne (ne_of_none e nC), upd_ne (fun z => n ps (Option.some.inj (e.symm.trans (by rw [z]; exact hP))))]
      exact e
    have eL : (ps ++ #[rawInt pos.line, rawInt pos.col, .ref c']).toList = ps.toList ++ [rawInt pos.line, rawInt pos.col, .ref c'] := by simp
    refine h h'.objs.size s.heap.objs.size c' doc ((X.mg "__name__").getD .none) ctv _ _ I1 hE (fun p hp => ?_) ⟨Heap.get?_push_size _ rfl, ?_, nofr _ (Nat.le_trans (Nat.le_of_lt sz0) hsz), ⟨s.toks, Heap.get?_push_of_some _ (hx _ _ tP tG)⟩, ?_, nofr _ (Nat.le_refl _)⟩ upd_same
    · by_cases hb : p.1 = P
      · rw [hu p hp hb, hb]
        refine ⟨_, by rw [upd_ne (ne_of_none hP nC), upd_same], by rw [eL]; exact PySem.TriplesOk_snoc _ _ _ _ ht, fun p' cv hcv => ?_⟩
        rw [eL] at hcv
        rcases LamX.among_app _ ht hcv with z | z
        · obtain ⟨c0, e1, e2⟩ := ha p' cv z
          exact ⟨c0, e1, hE _ _ e2 LamX.codeO_ne⟩
        · exact ⟨c', z, upd_same⟩
      · obtain ⟨ps', a1, a2, a3⟩ := hT p hp
        refine ⟨ps', by rw [upd_ne (ne_of_none a1 nC), upd_ne hb]; exact a1, a2, fun p' cv hcv => ?_⟩
        obtain ⟨c0, e1, e2⟩ := a3 p' cv hcv
        exact ⟨c0, e1, hE _ _ e2 LamX.codeO_ne⟩
    · have n1 : h'.objs.size ≠ c' := Nat.ne_of_gt hlt
      have n2 : h'.objs.size ≠ P := Nat.ne_of_gt (Nat.lt_of_lt_of_le (Heap.lt_size hP') hsz)
      rw [upd_ne n1, upd_ne n2]
      exact I0.hok.fresh hsz
    · have n1 : s.heap.objs.size ≠ c' := Nat.ne_of_lt (Nat.lt_of_lt_of_le sz0 hge)
      rw [upd_ne n1, upd_ne tP]
      exact tN
  | some cv =>
    obtain ⟨c', e, hco⟩ := ha pos cv hc
    subst e
    refine PySem.W.kdv_makeTailHit (mg := X.mg) (c := c) (P := P) (ps := ps) (closure_ok hfree) I0.ok.glob (I0.mod.glob.keeps I0.bk) hcode (TB.code.keeps I0.bk) hP' ht hc bP fun ctv doc h' tk hx hsz => ?_
    have I1 : Inv X pins σ H { s0 with heap := h'.push (objD X params body scope s.heap.objs.size doc ((X.mg "__name__").getD .none) c' ctv), toks := tk } := I0.kept fun b o e => Heap.get?_push_of_some _ (hx b o e)
    exact h h'.objs.size s.heap.objs.size c' doc ((X.mg "__name__").getD .none) ctv H _ I1 (LamX.ExtN.refl H) hT ⟨Heap.get?_push_size _ rfl, I0.hok.fresh hsz, nofr _ (Nat.le_trans (Nat.le_of_lt sz0) hsz), ⟨s.toks, Heap.get?_push_of_some _ (hx _ _ tG)⟩, tN, nofr _ (Nat.le_refl _)⟩ hco
/-- x() in the def that got it -/
theorem act_d {Eg : XK} {Ng : List Str} {qg : Str} {sg : Scope} {g f t c' : Addr} {cdg doc pm ctv : Value} {params : Arguments} {body : Expr} {scope : Scope} {k i : Nat} {di : Int} {nm : Str} {a : Str} {pn : List (Addr × Obj)} {xe : Value → Shared → Prop} {W : WX} {p1 p2 : Pos} {ρ : EnP} {db : EnP → Sto → Res PV}
    (I : Inv X pins σ H s) (L : LamD X.env.scope scope X.N) (hX : X.A.handled = none) (hTl : T.lm = none) (hgX : X.A.guards = some [])
    (M : MadeD X s H f t c' params body scope di doc pm ctv) (hnm : scope.names.lookup nm = some .local)
    (hbind : ∃ k, bindArgs (PySem.W.kdv_fn "<lambda>" (qlam X) params (.expr body) scope (cloFrom X.env.cells scope.names []) (.ref t) doc pm (.ref c') ctv) ⟨[], []⟩ = seqItems? (.ref t) >>= k ∧ ∀ tok, k (some [Value.int di tok].toArray) = pure [(nm, .int di tok)])
    (tk : Takes (((wdOf X T).cx Ng qg sg g cdg X.A X.stack s H Eg).tr pn xe) W) (hr : Room (k + 1) (X.A.deeper (envOfC qg sg s.heap.objs.size g cdg)))
    (hbody : ∀ (A : Around) (outer : List Env) (s1 : Shared) (H1 : Hp) (E : XK), Room k (A.deeper (LamX.lamEnv X scope s1.heap.objs.size f c')) → A.guards = some [] → CE (LamX.lamCx X A outer s1 H1 E scope f c') T (fun c d _ H => E c d H) body db)
    (hN : Ng[i]? = some a) (hv : Vis sg a) (hd : (a == ("__debug__" : Str)) = false := by decide) (hcd : (a == ("__classdict__" : Str)) = false := by decide) :
    CE (((wdOf X T).cx Ng qg sg g cdg X.A X.stack s H Eg).tr pn xe) (wT T (lamI (gm X T) f c' (qlam X) ρ σ)) W (.Call (.Name a p1) [] [] p2) (dAct i fun S => db ρ S) := by
  refine ⟨fun pz sz σz Hz Q Iz ⟨ρz, S, m, hE, hS, p⟩ => ?_⟩
  unfold dAct at p
  split at p
  case h_2 => exact p.elim
  rename_i ei
  obtain ⟨w, ew, rw_⟩ := hE.at_ i _ ei
  unfold Rep at rw_
  obtain ⟨j, ej, rfl, hΦ⟩ := rw_
  cases ej
  obtain ⟨hEx, hno, hco⟩ := hΦ
  refine wpAny_Call_Name_kw (thn ((pe_var (pos := p1) (i := i) hN hv hd hcd).run pz sz σz Hz (fun v H1 => v = .ref f ∧ H1 = Hz) Iz ⟨.ref f, ew, rfl, rfl⟩) fun u s1 ⟨v, H1, I1, r1, q1, q2⟩ => ?_)
  rw [q1] at r1
  rw [q2] at I1
  obtain rfl : u = Value.ref f := r1
  have here : s1.heap.get? f = some (objD X params body scope t doc pm c' ctv) := I1.base.keep f _ M.o M.fn M.fr (fun z => nomatch (show f ∈ ([] : List Addr) from z))
  obtain ⟨tok, hd0⟩ := M.d
  have there : s1.heap.get? t = some (PySem.W.kdv_tup [.int di tok]) := I1.base.keep t _ hd0 M.tn M.tr (fun z => nomatch (show t ∈ ([] : List Addr) from z))
  have un : Un (frs X.stack) [] H Hz s.heap s1.heap := I1.base
  obtain ⟨⟨oc, us, tt, hoc, hdc, hvc⟩, _, _⟩ := I1.hok c' _ hco
  have hAd : (X.A.deeper (envOfC qg sg s.heap.objs.size g cdg)).handled = none := hX
  have pb : PostV (gm X T) (fun c d _ H => W c d σz H) σ m Hz Q (db ρ S) := by
    have q := post_bare (W' := fun c d _ H => W c d σz H) (σ' := σ) (fun _ _ _ h => h) p
    rw [← gm_bare hX hTl]
    exact q
  obtain ⟨kk, hb1, hb2⟩ := hbind
  have hbt : BindsTo s1 (PySem.W.kdv_fn "<lambda>" (qlam X) params (.expr body) scope (cloFrom X.env.cells scope.names []) (.ref t) doc pm (.ref c') ctv) ⟨[], []⟩ [(nm, .int di tok)] := BindsTo.of_defaults rfl there rfl hb1 (hb2 tok)
  refine PySem.W.callWith_F0 ⟨_, _, _, _, here⟩ (wpAny_call (codeAny_mono (R := CR (L2.CX X.prog X.w) (envOfC qg sg s.heap.objs.size g cdg :: X.stack) X.prog X.w Hz s1 Q (fun c d H => W c d σz H)) ?_ fun r s' hq => ?_))
  · refine PySem.W.kla_callFunE hr.depth here rfl L.co L.gen rfl ⟨c', oc, us, tt, rfl, hoc, hdc, hvc⟩ (hbt _ _ _ _ ?_)
    refine wpAny_newFunctionEnv (fun y hy => (L.own y hy).1) (fun y hy => by rw [List.mem_singleton.mp hy]; exact hnm) (fun h₁ hns hsb => ⟨I1.nolimit.fresh _ hsb, ?_⟩) L.kind
    show codeAny _ _ (.expr body (LamX.lamEnv X scope s1.heap.objs.size f c')) _ _
    have J := start_d (E := fun c d H => W c d σz H) (f := f) (c' := c') (tk := s1.toks + ([(nm, Value.int di tok)] : List (Str × Value)).length) I L I1.env0 hAd un hns fun b o e => hsb.extBut b o (Nat.ne_of_lt (Heap.lt_size e)) (Heap.get?_push_of_some _ e)
    have hb := hbody _ (envOfC qg sg s.heap.objs.size g cdg :: X.stack) s1 Hz (fun c d H => W c d σz H) (hr.deeper _) hgX
    refine PySem.W.kla_codeExpr (wpAny_mono (hb.run [] _ σ Hz Q J ⟨ρ, S, m, hEx, ?_, pb⟩) (fun v s' hq => ?_) fun e s' hq => hq)
    · exact relS_as (by show Gm.bare _ = Gm.bare _; rfl) hS
    · obtain ⟨w', H', J', rv, q⟩ := hq
      exact ⟨w', H', J'.os, J'.bare, J'.base, J'.hok, rv, q⟩
  · cases r with
    | error e => exact tk e s' (XE.of_call I1 (fun _ _ _ h => h) hq)
    | ok fl =>
      cases fl with
      | ret u => exact I1.after hq
      | _ => exact False.elim hq
/-- x(lambda n=i: body) -/
theorem ce_lamD {W : WX} {x : Str} {G : (Sto → Res PV) → Sto → Res PV} {kF kl j kk : Nat} {di : Int} {nm : Str} {c P : Addr} {params : Arguments} {body : Expr} {scope : Scope} {p lpos pos dp : Pos} {db : EnP → Sto → Res PV} (F : FL (wdOf X T) kF x G) (Cx_ : Ctx X j W) (hk1 : kF ≤ kl + 1) (hk2 : kl + 2 ≤ j) (hTl : T.lm = none)
    (hg : Gl X x) (TB : LamX.TabB X.base X.mg c P) (hcode : X.env.code = .ref c) (hmT : (P, qlam X) ∈ T.tabs) (hu : ∀ p ∈ T.tabs, p.1 = P → p.2 = qlam X) (L : LamD X.env.scope scope X.N) (hd0 : params.defaults = [.Constant (.int di) kk dp]) (hk0 : params.kw_defaults = []) (hnm : scope.names.lookup nm = some .local)
    (hbind : ∀ (q : Str) (cl : List (Str × Addr)) (t : Addr) (doc pm cv ctv : Value), ∃ k, bindArgs (PySem.W.kdv_fn "<lambda>" q params (.expr body) scope cl (.ref t) doc pm cv ctv) ⟨[], []⟩ = seqItems? (.ref t) >>= k ∧ ∀ tok, k (some [Value.int di tok].toArray) = pure [(nm, .int di tok)])
    (hbody : ∀ (A : Around) (outer : List Env) (s1 : Shared) (H1 : Hp) (E : XK) (f c' : Addr), Room kl (A.deeper (LamX.lamEnv X scope s1.heap.objs.size f c')) → A.guards = some [] → CE (LamX.lamCx X A outer s1 H1 E scope f c') T (fun c d _ H => E c d H) body db)
    (hdb : (x == ("__debug__" : Str)) = false := by decide) : CE X T W (.Call (.Name x p) [.Lambda params body scope lpos] [] pos) (fun ρ S => G (fun S => db ρ S) S) := by
  obtain ⟨g, st, cdv, N, a, d, hm, hk, FC_, Sc, hbd, hN0, hva, hd1, hd2, hG, hB⟩ := F.ex
  refine ⟨fun pins s σ H Q I ⟨ρ, S, m, hE, hS, q⟩ => ?_⟩
  refine wpAny_Call_Name_kw (ld_glob I hg hm ?_ hdb)
  refine PySem.W.callWith_K (h₀ := X.base) I.ok.mod.kin hk ?_ (by rfl) (by rfl)
  show wpAny _ _ (spliced ((false, eval (.Lambda params body scope lpos) X.env) :: backTo pos (starEach [] X.env))) _ _ s
  refine Calls.spliced_cons (make_d I TB hcode hmT hu hS.tab hd0 hk0 (L.has I.ok) fun f t c' doc' pm' ctv H1 s' I1 eN T1 M hco => Calls.spliced_nil ⟨I1.kIn, ?_⟩)
  have hS1 := relS_extN hS eN T1
  have st1 : Step m H m H1 := step_extN eN
  have hE1 := hE.step st1
  have nlst : ∀ u, H1 c' = some u → ¬ Tr u := fun u e t => by
    rw [hco] at e
    unfold LamX.CodeO at e
    cases e
    rcases t with ⟨_, q⟩ | ⟨_, q⟩ | ⟨_, _, q⟩ <;> cases q
  have nc : m.no c' := by
    refine ⟨fun z => ?_, fun z => ?_⟩
    · obtain ⟨vs, e, t⟩ := hS1.tracked z
      exact nlst vs e t
    · obtain ⟨_, vs, e, t⟩ := hS1.exs c' z
      exact nlst vs e t
  have hX := Cx_.room.hd
  have hbr : Bare (gm X T) := gm_bare hX hTl
  have q1 : PostV (gm X T) W σ m H1 Q (cleanR (runF 1 N.length (d fun S => db ρ S) [.lam] S)) := by
    have q0 : PostV (gm X T) W σ m H1 Q (G (fun S => db ρ S) S) := PostR.step st1 q
    rw [hG] at q0
    exact q0
  let i : LmI := lamI (gm X T) f c' (qlam X) ρ σ
  let Y : Cx := (wdOf X T).cx N x (defScope st) g cdv X.A X.stack s' H1 (fun c d H => W c d σ H)
  have q2 : PostV (gm Y (wT T i)) (fun c d _ H => W c d σ H) (L2.start N [.ref f]) m H1 Q (endOf (d (fun S => db ρ S) (startP N.length [.lam]) S)) := by
    refine post_wide (X := X) (Y := Y) rfl rfl hbr (fun _ _ _ h => h) (σ := σ) (W := W) ?_
    have e : runF 1 N.length (d fun S => db ρ S) [.lam] S = endOf (d (fun S => db ρ S) (startP N.length [.lam]) S) := rfl
    rw [← e]
    exact q1
  have rx : RepL (gm Y (wT T i)) m H1 [.lam] [.ref f] := RepL.cons (by unfold Rep; exact ⟨i, rfl, rfl, hE1, nc, hco⟩) RepL.nil
  have hS2 : RelS (gm Y (wT T i)) m S H1 := relS_as (by show Gm.bare _ = Gm.bare _; rfl) hS1
  have hr2 : Room (kl + 2) X.A := Cx_.room.mono hk2
  have body1 := hB i (fun S => db ρ S) X.A X.stack s' H1 (fun c d H => W c d σ H) ((hr2.deeper _).mono hk1) Cx_.gd fun pn xe W' p1 p2 tk' => act_d (p1 := p1) (p2 := p2) (ρ := ρ) (db := db) I1 L hX hTl Cx_.gd M hnm (hbind _ _ _ _ _ _ _) tk' (hr2.deeper _) (fun A outer s1 H2 E h1 h2 => hbody A outer s1 H2 E f c' h1 h2) hN0 hva hd1 hd2
  have run := run_body (k := kl + 1) (E := fun c d H => W c d σ H) (Q := Q) FC_ Sc hbd hr2 I1.env0 (show Vals [V.ref f] [Value.ref f] from .cons rfl .nil) rfl body1 ⟨_, S, m, start_rel rx, hS2, endOf_post (fun _ _ _ _ _ h => h) q2⟩
  refine wpAny_call (codeAny_mono run fun r s2 hq => ?_)
  cases r with
  | error e => exact Cx_.tk e s2 (XE.of_call I1 (fun _ _ _ h => h) hq)
  | ok fl =>
    cases fl with
    | ret u => exact I1.after hq
    | _ => exact False.elim hq
end
/-! ### {k: x} -/
def dDisp1 (k : Int) (i : Nat) : EnP → Sto → Res PV := fun ρ S => match ρ[i]? with
  | some (some v) => .ok (.nd [.inl k] [v]) S
  | _ => .bad
theorem upd_two {H : Hp} {a : Addr} {u v : HO} : upd (upd H a u) a v = upd H a v := by
  funext b
  by_cases h : b = a
  · rw [h, upd_same, upd_same]
  · rw [upd_ne h, upd_ne h, upd_ne h]
theorem ce_disp1 {X : Cx} {T : Tb} {W : WX} {k : Int} {i j : Nat} {x : Str} {p1 p2 pos : Pos} (hN : X.N[i]? = some x) (hv : Vis X.env.scope x) (hd : (x == ("__debug__" : Str)) = false := by decide) (hcd : (x == ("__classdict__" : Str)) = false := by decide) :
    CE X T W (.Dict [some (.Constant (.int k) j p1)] [.Name x p2] pos) (dDisp1 k i) :=
  pe_imp (pe_disp (pps_cons pe_int (pe_var hN hv hd hcd) pps_nil) rfl rfl (by simp) (by simp)) fun σ H Q ⟨ρ, S, m, hE, hS, p⟩ => fun a ha => by
    unfold dDisp1 at p
    split at p
    · rename_i v ev
      obtain ⟨w, ew, rw_⟩ := hE.at_ i v ev
      refine ⟨w, ew, upd_same, [(.inl k, w)], rfl, by simp, ?_⟩
      rw [upd_two]
      refine p m _ _ (step_new ha) (hS.new ha) ?_
      show Rep _ _ _ (.nd [.inl k] [v]) _
      unfold Rep
      exact ⟨a, [w], rfl, hS.fresh ha, upd_same, rfl, RepL.cons (Rep.step (step_new ha) _ _ rw_) RepL.nil⟩
    · exact p.elim
def lamDB (sc scope : Scope) (N : List Str) : Bool :=
  decide (scope.kind = .function) && !scope.isCoroutine && !scope.isGenerator && scope.names.all fun y => !decide (y.2 = .cell) && (!decide (y.2 = .local) || !N.contains y.1) && (!decide (y.2 = .free) || decide (sc.names.lookup y.1 = some .cell) || decide (sc.names.lookup y.1 = some .free))
theorem lamD_by {sc scope : Scope} {N : List Str} (h : lamDB sc scope N = true) : LamD sc scope N := by
  unfold lamDB at h
  simp only [Bool.and_eq_true, Bool.or_eq_true, Bool.not_eq_true', decide_eq_true_eq, decide_eq_false_iff_not, List.all_eq_true] at h
  obtain ⟨⟨⟨h1, h2⟩, h3⟩, h4⟩ := h
  refine ⟨h1, h2, h3, fun y hy => ⟨(h4 y hy).1.1, fun e z => ?_⟩, fun y hy e => ?_⟩
  · rcases (h4 y hy).1.2 with q | q
    · exact q e
    · rw [List.contains_eq_mem] at q
      simp [z] at q
  · rcases (h4 y hy).2 with (q | q) | q
    · exact absurd e q
    · exact .inl q
    · exact .inr q
end Mi
end
section
set_option Elab.async false
set_option linter.all false
set_option maxRecDepth 100000
set_option maxHeartbeats 2000000
namespace Mi
open PySem PySem.Spec PyProof.Rows L2
/-! ### l.index(x) -/
def fIndex (x y : PV) (S : Sto) : Res PV := match toDS x S, toD y with
  | some (.list ds), some d => if SeqAt.shaped (.list ds) = true ∧ SeqAt.shaped d = true then (match ds.findIdx? (fun z => PyData.eqv z d) with | some j => .ok (.int (j : Nat)) S | none => .bad) else .bad
  | _, _ => .bad
def index1 (x : PV) (S : Sto) : List PV → Res PV
  | [y] => fIndex x y S
  | _ => .bad
def dIndex (d : EnP → Sto → Res PV) (dl : EnP → Sto → Res (List PV)) : EnP → Sto → Res PV := fun ρ S => (d ρ S).bind fun x S1 => if (lstOf x S1).isSome = true then (dl ρ S1).bind fun ys S2 => index1 x S2 ys else .bad
theorem type_list_index : typeOf (.builtin "list.index") = pure (.type "method_descriptor") := by show builtinType "list.index" = _; first | rfl | kernel_rfl
section
variable {X : Cx} {T : Tb} {W : WX} {o e : Expr} {es : List Expr} {d : EnP → Sto → Res PV} {dl : EnP → Sto → Res (List PV)} {apos cpos : Pos}
theorem ce_index (hu : X.A.units + 65 < cLine) (ho : CE X T W o d) (ha : CA X T W (e :: es) dl)
    (hbase : attributeBase o "index" X.env (eval o X.env) = eval o X.env := by rfl)
    (hfew : ((backTo cpos (starEach (e :: es) X.env)).all (fun x => !x.1) && (backToKw cpos (keywordEach [] X.env)).all (fun x => x.1.isSome)
      && decide ((e :: es).length + ([] : List Keyword).length + (if ([] : List Keyword).isEmpty then 0 else 1) < 30)) = true := by rfl)
    (hline : (apos.endLine == cpos.line) = true := by rfl) (hs : starEach (e :: es) X.env = (false, eval e X.env) :: starEach es X.env := by rfl) (hplain : (backTo cpos (starEach es X.env)).any (·.1) = false := by rfl) :
    CE X T W (.Call (.Attribute o "index" apos) (e :: es) [] cpos) (dIndex d dl) :=
  pe_imp (pe_bm PySem.F.plainAttrs_list PySem.F.slot_list_index type_list_index (mt_indexD hu) ho ha hbase hfew hline hs hplain) fun σ H Q ⟨ρ, S, m, hE, hS, p⟩ =>
    tr_bind (f := fun (x : PV) (ρ : EnP) (S1 : Sto) => if (lstOf x S1).isSome = true then (dl ρ S1).bind fun ys S2 => index1 x S2 ys else .bad) hE hS p fun x S1 m1 H1 w s1 hE1 hS1 hr1 p1 => by
      cases e0 : lstOf x S1 with
      | none => rw [e0] at p1; exact p1.elim
      | some xs0 =>
        rw [e0, if_pos (show (some xs0).isSome = true from rfl)] at p1
        obtain ⟨a, vs0, rfl, f1, _⟩ := lstOf_rep hS1 hr1 e0
        refine ⟨.inl ⟨rfl, vs0, f1⟩, tr_bind (f := fun (ys : List PV) (_ : EnP) (S2 : Sto) => index1 x S2 ys) hE1 hS1 p1 fun ys S2 m2 H2 ws s2 hE2 hS2 hr2 p2 => ?_⟩
        unfold index1 at p2
        split at p2
        · rename_i y
          obtain ⟨u, rfl, ru⟩ := one_rep hr2
          unfold fIndex at p2
          split at p2
          · rename_i ds dd h1 h2
            split at p2
            · rename_i h
              split at p2
              · rename_i j hj
                obtain ⟨hl, hz, hn⟩ := List.findIdx?_eq_some_iff_getElem.mp hj
                refine ⟨a, u, dd, ds, j, ds[j], rfl, rfl, dpS_of hS2 (hr1.step s2) h1, dp_of y u dd ru h2, h.1, h.2, List.getElem?_eq_getElem hl, hz, fun k z' hk hz' => ?_, p2.here hS2 (mk_int _)⟩
                have hk2 : k < ds.length := by omega
                rw [List.getElem?_eq_getElem hk2] at hz'
                cases hz'
                simpa using hn k hk
              · exact p2.elim
            · exact p2.elim
          · exact p2.elim
        · exact p2.elim
end
end Mi
end
section
set_option Elab.async false
set_option linter.all false
set_option maxRecDepth 100000
set_option maxHeartbeats 2000000
namespace Mi
open PySem PySem.Spec PyProof.Rows L2
/-! ### xs[::-1] -/
def fRev (mt : Bool) (x : PV) (S : Sto) : Res PV := match lstOf x S with
  | some xs => mkLst mt xs.reverse S
  | none => .bad
def dRev (mt : Bool) (d : EnP → Sto → Res PV) : EnP → Sto → Res PV := fun ρ S => (d ρ S).bind fun x S1 => fRev mt x S1
theorem RepL.rev {g : Gm} {m : Mm} {H : Hp} : ∀ {xs : List PV} {vs : List V}, RepL g m H xs vs → RepL g m H xs.reverse vs.reverse
  | [], vs, h => by
    unfold RepL at h
    subst h
    exact RepL.nil
  | x :: xs, vs, h => by
    unfold RepL at h
    obtain ⟨v, vs', rfl, h1, h2⟩ := h
    rw [List.reverse_cons, List.reverse_cons]
    exact RepL.append (RepL.rev h2) (RepL.cons h1 RepL.nil)
section
variable {X : Cx} {T : Tb} {W : WX} {pos p1 p2 p3 : Pos} {k : Nat} {a : Expr} {da : EnP → Sto → Res PV}
theorem ce_rev (mt : Bool) (hb : mt = true → Bare (gm X T)) (ha : CE X T W a da) : CE X T W (.Subscript a (.Slice none none (some (.UnaryOp .USub (.Constant (.int 1) k p1) p2)) p3) pos) (dRev mt da) :=
  pe_imp (pe_revL ha) fun σ H Q ⟨ρ, S, m, hE, hS, p⟩ =>
    tr_bind (f := fun (x : PV) (ρ : EnP) (S1 : Sto) => fRev mt x S1) hE hS p fun x S1 m1 H1 w s1 hE1 hS1 hr1 p1 => by
      unfold fRev at p1
      cases e : lstOf x S1 with
      | none => rw [e] at p1; exact p1.elim
      | some xs =>
        rw [e] at p1
        obtain ⟨b, vs, rfl, h1, h2⟩ := lstOf_rep hS1 hr1 e
        exact ⟨b, vs, rfl, h1, (new_lst hb hS1 (RepL.rev h2) p1).2⟩
end
/-! ### lists of flat values made under an error -/
theorem flatL_any {g g' : Gm} {m m' : Mm} {H H' : Hp} : ∀ {xs : List PV} {vs : List V}, xs.all flatP = true → RepL g m H xs vs → RepL g' m' H' xs vs
  | [], _, _, r => by unfold RepL at r; subst r; exact RepL.nil
  | x :: xs, _, h, r => by
    unfold RepL at r
    obtain ⟨v, ws, rfl, h1, h2⟩ := r
    rw [List.all_cons, Bool.and_eq_true] at h
    exact RepL.cons (flat_any h.1 h1) (flatL_any h.2 h2)
def mkLstF (xs : List PV) (S : Sto) : Res PV := if xs.all flatP = true then mkLst true xs S else .bad
def dLstF (dl : EnP → Sto → Res (List PV)) : EnP → Sto → Res PV := fun ρ S => (dl ρ S).bind fun xs S1 => mkLstF xs S1
def fAppF (n : Nat) (y : PV) (S : Sto) : Res PV := if flatP y = true then fApp n y S else .bad
def appF1 (n : Nat) (S : Sto) : List PV → Res PV
  | [y] => fAppF n y S
  | _ => .bad
def dAppF (d : EnP → Sto → Res PV) (dl : EnP → Sto → Res (List PV)) : EnP → Sto → Res PV := fun ρ S => (d ρ S).bind fun x S1 => match x with
  | .ref n => (match S1[n]? with
    | some (SO.lst _) => (dl ρ S1).bind fun ys S2 => appF1 n S2 ys
    | _ => .bad)
  | _ => .bad
section
variable {X : Cx} {T : Tb} {W : WX} {pos : Pos} {o e : Expr} {es : List Expr} {d : EnP → Sto → Res PV} {dl : EnP → Sto → Res (List PV)} {apos cpos : Pos}
theorem ce_lstF (h : CA X T W es dl) : CE X T W (.List es pos) (dLstF dl) :=
  pe_imp (pe_lst h) fun σ H Q ⟨ρ, S, m, hE, hS, p⟩ => tr_bind (f := fun xs _ S1 => mkLstF xs S1) hE hS p fun xs S1 m1 H1 ws s1 hE1 hS1 hr1 p1 => by
    unfold mkLstF at p1
    split at p1
    · rename_i hf
      unfold mkLst at p1
      split at p1
      · rename_i hl
        refine ⟨by rw [← hr1.length]; exact lim_line hl, fun a ha => ?_⟩
        have hB : RelS (gm X T).bare m1 S1 H1 := relS_as (g := gm X T) (g' := (gm X T).bare) rfl hS1
        have hA := hB.alloc rfl ha (flatL_any hf hr1)
        refine p1 (m1.push a) _ _ (step_alloc ha) (relS_as (g := (gm X T).bare) (g' := gm X T) rfl hA) ?_
        show Rep _ _ _ (.ref S1.length) _
        unfold Rep
        exact ⟨a, by rw [List.getElem?_append_right (by rw [hS1.len]; omega), hS1.len]; simp, rfl⟩
      · exact p1.elim
    · exact p1.elim
theorem ce_appF (ho : CE X T W o d) (ha : CA X T W (e :: es) dl)
    (hbase : attributeBase o "append" X.env (eval o X.env) = eval o X.env := by rfl)
    (hfew : ((backTo cpos (starEach (e :: es) X.env)).all (fun x => !x.1) && (backToKw cpos (keywordEach [] X.env)).all (fun x => x.1.isSome)
      && decide ((e :: es).length + ([] : List Keyword).length + (if ([] : List Keyword).isEmpty then 0 else 1) < 30)) = true := by rfl)
    (hline : (apos.endLine == cpos.line) = true := by rfl) (hs : starEach (e :: es) X.env = (false, eval e X.env) :: starEach es X.env := by rfl) (hplain : (backTo cpos (starEach es X.env)).any (·.1) = false := by rfl) :
    CE X T W (.Call (.Attribute o "append" apos) (e :: es) [] cpos) (dAppF d dl) :=
  pe_imp (pe_bm PySem.F.plainAttrs_list PySem.F.slot_list_append PySem.F.type_list_append mt_append ho ha hbase hfew hline hs hplain) fun σ H Q ⟨ρ, S, m, hE, hS, p⟩ =>
    tr_bind (f := fun (x : PV) (ρ : EnP) (S1 : Sto) => match x with | .ref n => (match S1[n]? with | some (SO.lst _) => (dl ρ S1).bind fun ys S2 => appF1 n S2 ys | _ => .bad) | _ => .bad) hE hS p fun x S1 m1 H1 w s1 hE1 hS1 hr1 p1 => by
      cases x with
      | ref n =>
        have p1 : PostV (gm X T) W σ m1 H1 Q (match S1[n]? with | some (SO.lst _) => (dl ρ S1).bind fun ys S2 => appF1 n S2 ys | _ => .bad) := p1
        split at p1
        case h_2 => exact p1.elim
        rename_i xs0 e0
        obtain ⟨a, vs0, e1, rfl, f2, _⟩ := ref_any hS1 hr1 e0
        refine ⟨.inl ⟨rfl, vs0, .inl (.inl f2)⟩, tr_bind (f := fun (ys : List PV) (ρ : EnP) (S2 : Sto) => appF1 n S2 ys) hE1 hS1 p1 fun ys S2 m2 H2 ws s2 hE2 hS2 hr2 p2 => ?_⟩
        unfold appF1 at p2
        split at p2
        · rename_i y
          obtain ⟨u, rfl, ru⟩ := one_rep hr2
          unfold fAppF at p2
          split at p2
          · rename_i hf
            unfold fApp at p2
            split at p2
            · rename_i xs e3
              split at p2
              · rename_i hl
                have hB : RelS (gm X T).bare m2 S2 H2 := relS_as (g := gm X T) (g' := (gm X T).bare) rfl hS2
                have rr : Rep (gm X T).bare m2 H2 (.ref n) (.ref a) := by
                  have := hr1.step s2
                  unfold Rep at this ⊢
                  exact this
                obtain ⟨a', vs, g1, g2, g3, g4⟩ := ref_rep hB rr e3
                cases g2
                have hn2 : n < S2.length := (List.getElem?_eq_some_iff.mp e3).1
                refine ⟨a, vs, u, rfl, rfl, g3, ?_, ?_⟩
                · rw [sizeLine_eq, ← g4.length]; exact hl
                · exact p2 m2 _ _ (step_write (List.mem_of_getElem? g1) g3) (relS_as (g := (gm X T).bare) (g' := gm X T) rfl (hB.write rfl g1 hn2 g3 (g4.append (RepL.cons (flat_any hf ru) RepL.nil)))) mk_non
              · exact p2.elim
            · exact p2.elim
          · exact p2.elim
        · exact p2.elim
      | _ => exact p1.elim
end
/-! ### x in a tuple of data -/
def rInT (neg : Bool) (K : PySem.W.Frag) : R2 := fun x y H Q => ∃ d ds, Dp K H x d ∧ Dp K H y (.tuple ds) ∧ SeqAt.shaped d = true ∧ SeqAt.shaped (.tuple ds) = true ∧ Q (.bl (if neg = true then !(ds.any fun z => PyData.eqv z d) else ds.any fun z => PyData.eqv z d)) H
theorem op_inT {X : Cx} (hu : X.A.units + 65 < cLine) : OpR X (compareOp .In) (rInT false X.K) := by
  intro pins s σ H x y v u Q I rx ry h
  obtain ⟨d, ds, hd, he, sd, se, q⟩ := h
  obtain ⟨as, r1⟩ := Dp.reads I d x v hd rx
  obtain ⟨bs, r2⟩ := Dp.reads I (.tuple ds) y u he ry
  exact SeqAt.in_tuple_reads r2 r1 (SeqAt.canLay_of_shaped se) (SeqAt.canLay_of_shaped sd) (room_in_shaped sd hu) ⟨.bl _, H, I, rfl, q⟩
theorem op_notInT {X : Cx} (hu : X.A.units + 65 < cLine) : OpR X (compareOp .NotIn) (rInT true X.K) := by
  intro pins s σ H x y v u Q I rx ry h
  obtain ⟨d, ds, hd, he, sd, se, q⟩ := h
  obtain ⟨as, r1⟩ := Dp.reads I d x v hd rx
  obtain ⟨bs, r2⟩ := Dp.reads I (.tuple ds) y u he ry
  exact SeqAt.notIn_tuple_reads r2 r1 (SeqAt.canLay_of_shaped se) (SeqAt.canLay_of_shaped sd) (room_in_shaped sd hu) ⟨.bl _, H, I, rfl, q⟩
def fInT (neg : Bool) (x y : PV) (S : Sto) : Res PV := match toDS x S, toDS y S with
  | some d, some (.tuple ds) => if SeqAt.shaped d = true ∧ SeqAt.shaped (.tuple ds) = true then .ok (.bl (if neg = true then !(ds.any fun z => PyData.eqv z d) else ds.any fun z => PyData.eqv z d)) S else .bad
  | _, _ => .bad
theorem sn_inT {X : Cx} {T : Tb} (neg : Bool) : Snd (gm X T) (rInT neg X.K) (fInT neg) := by
  intro W σ m S H x y v u Q hS rx ry p
  unfold fInT at p
  split at p
  · rename_i d ds h1 h2
    split at p
    · rename_i h
      exact ⟨d, ds, dpS_of hS rx h1, dpS_of hS ry h2, h.1, h.2, p.here hS (mk_bl _)⟩
    · exact p.elim
  · exact p.elim
end Mi
end
section
set_option Elab.async false
set_option linter.all false
set_option maxRecDepth 100000
set_option maxHeartbeats 2000000
namespace Mi
open PySem PySem.Spec PyProof.Rows L2
/-! ### enumerate over a zip of two: the zip's tuple stays in hand -/
/-- the zip's record, its first two parts whatever they are -/
abbrev ZS (h : Heap) (z TI TO : Addr) (v : Value) (b : Bool) : Prop :=
  h.get? z = some { cls := .type "zip", dict := none, data := .fields #[v, .bool b, .bool false, .ref TI, .ref TO], slots := #[] }
def Fo (v : Value) : Prop := v = .none ∨ ∃ T : Addr, v = rawInt T
section
variable {prog : Program} {w : World} {A : Around} {E : Value → Shared → Prop} {s : Shared} {z TI TO i1 i2 : Addr} {fp1 fp2 : List Addr} {n1 n2 i : Nat} {P1 P2 : Nat → Value → Prop} {St1 St2 : Nat → Heap → Prop} {a1 a2 : Value} {v0 : Value} {b0 : Bool}
theorem zs_free {Q : Bool → Shared → Prop} (hz : ZS s.heap z TI TO v0 b0) (hv : Fo v0) (yes : Q true s) (no : ∀ h', ZS h' z TI TO v0 true → Heap.SameBut z s.heap h' → Q false { s with heap := h' }) :
    wpAny (model prog w) A (Builtin.SmallTypes.ownedTupleIsFree (.ref z)) Q E s := by
  unfold Builtin.SmallTypes.ownedTupleIsFree
  rcases hv with rfl | ⟨T, rfl⟩
  · exact wpAny_bind (wpAny_field hz rfl (x := .none) rfl (wpAny_pure yes))
  · refine wpAny_bind (wpAny_field hz rfl (x := rawInt T) rfl ?_)
    show wpAny _ _ (loadIfAlive ((T : Int).toNat) >>= _) _ _ _
    rw [Int.toNat_natCast]
    have al : ∀ {R : Option Obj → Shared → Prop}, R (s.heap.get? T) s → wpAny (model prog w) A (loadIfAlive T) R E s := fun r => fun _ _ _ => r
    refine wpAny_bind (al ?_)
    cases s.heap.get? T with
    | none => exact wpAny_pure yes
    | some o =>
      simp only [Option.isNone_some, Bool.false_eq_true, if_false]
      refine wpAny_bind (wpAny_field hz rfl (x := .bool b0) rfl ?_)
      cases b0 with
      | true =>
        rw [if_neg (show ¬ ((Value.bool true != Value.bool true) = true) from Bool.false_ne_true)]
        exact wpAny_pure (no s.heap hz (Heap.SameBut.refl _ _))
      | false =>
        rw [if_pos (show (Value.bool false != Value.bool true) = true from rfl)]
        exact wpAny_bind (wpAny_setField_rec hz (by simp) fun k1 y1 y2 => wpAny_pure (no k1 y1 y2))
theorem zs_item {Q : Value → Shared → Prop} (S : ZipSep2 z TI TO i1 i2 fp1 fp2) (D1 : Draws prog w A i1 fp1 n1 P1 St1) (D2 : Draws prog w A i2 fp2 n2 P2 St2)
    (hz : ZS s.heap z TI TO v0 b0) (hv : Fo v0) (hTI : IsTupOf2 s.heap TI (.ref i1) (.ref i2)) (hTO : IsTupOf2 s.heap TO a1 a2) (st1 : St1 i s.heap) (st2 : St2 i s.heap) (hlt1 : i < n1) (hlt2 : i < n2)
    (hQ : ∀ x1 x2 h' tk v b c1 c2, P1 i x1 → P2 i x2 → Fo v → ZS h' z TI TO v b → IsTupOf2 h' TO c1 c2 → St1 (i + 1) h' → St2 (i + 1) h' → IsTupOf2 h' s.heap.objs.size x1 x2 → h'.objs.size = s.heap.objs.size + 1 →
      (∀ c o, c ≠ z → c ≠ TO → c ≠ i1 → c ≠ i2 → s.heap.get? c = some o → h'.get? c = some o) → Q (.ref s.heap.objs.size) { s with heap := h', toks := tk }) :
    wpAny (model prog w) A (Builtin.«zip.__next__» ⟨[.ref z], []⟩) (fun fin s' => ∃ v, fin = .done (.ret v) ∧ Q v s') E s := by
  obtain ⟨hp, g, d, tk0, os⟩ := s
  show wpAny _ _ (field (.ref z) 2 >>= _) _ _ _
  refine wpAny_bind (wpAny_field hz rfl (x := .bool false) rfl ?_)
  show wpAny _ _ (field (.ref z) 3 >>= _) _ _ _
  refine wpAny_bind (wpAny_field hz rfl (x := .ref TI) rfl ?_)
  refine wpAny_bind (wpAny_seqItems hTI rfl ?_)
  show wpAny _ _ (Builtin.SmallTypes.ownedTupleIsFree (.ref z) >>= _) _ _ _
  refine wpAny_bind (zs_free hz hv ?_ fun k0 z0 y0 => ?_)
  · simp only [if_true]
    refine wpAny_bind (wpAny_rule ?_)
    refine wpAny_bind (wpAny_field hz rfl (x := .ref TO) rfl ?_)
    refine wpAny_bind (wpAny_setField_rec hz (by simp) fun k0 z0 y0 => ?_)
    replace z0 : ZS k0 z TI TO .ellipsis b0 := z0
    replace y0 : Heap.SameBut z hp k0 := y0
    refine wpAny_bind ?_
    simp only [List.zipIdx_cons, List.zipIdx_nil, List.forIn_cons, List.forIn_nil]
    refine wpAny_bind (wpAny_bind (wpAny_onRaise ?_))
    show wpAny _ _ (Builtin.SmallTypes.nextOf (.ref i1) >>= _) _ _ ⟨k0, g, d, tk0, os⟩
    refine wpAny_bind (D1.item i _ _ _ hlt1 (D1.over st1 y0 S.zf1) fun x1 k1 tk1 q1 sn1 y1 => wpAny_pure ?_)
    replace y1 : Heap.SameBut i1 k0 k1 := y1
    have U1 : IsTupOf2 k1 TO a1 a2 := y1.extBut _ _ S.Ti1 (y0.extBut _ _ S.TOz hTO)
    refine wpAny_bind (wpAny_seqItems (s := ⟨k1, g, d, tk1, os⟩) U1 rfl ?_)
    refine wpAny_bind (updateSeq_IsTupOf2 (s := ⟨k1, g, d, tk1, os⟩) U1 fun k2 U2 y2 => ?_)
    replace U2 : IsTupOf2 k2 TO x1 a2 := U2
    replace y2 : Heap.SameBut TO k1 k2 := y2
    refine wpAny_bind (wpAny_letGo (wpAny_pure ?_))
    refine wpAny_bind (wpAny_bind (wpAny_onRaise ?_))
    show wpAny _ _ (Builtin.SmallTypes.nextOf (.ref i2) >>= _) _ _ ⟨k2, g, d, tk1, os⟩
    refine wpAny_bind (D2.item i _ _ _ hlt2 (D2.over (D2.over (D2.over st2 y0 S.zf2) y1 S.sep1_2) y2 S.Tf2) fun x2 k3 tk2 q2 sn2 y3 => wpAny_pure ?_)
    replace y3 : Heap.SameBut i2 k2 k3 := y3
    have U3 : IsTupOf2 k3 TO x1 a2 := y3.extBut _ _ S.Ti2 U2
    refine wpAny_bind (wpAny_seqItems (s := ⟨k3, g, d, tk2, os⟩) U3 rfl ?_)
    refine wpAny_bind (updateSeq_IsTupOf2 (s := ⟨k3, g, d, tk2, os⟩) U3 fun k4 U4 y4 => ?_)
    replace U4 : IsTupOf2 k4 TO x1 x2 := U4
    replace y4 : Heap.SameBut TO k3 k4 := y4
    refine wpAny_bind (wpAny_letGo (wpAny_pure (wpAny_pure ?_)))
    refine wpAny_bind (wpAny_seqItems (s := ⟨k4, g, d, tk2, os⟩) U4 rfl ?_)
    refine wpAny_bind (wpAny_newTuple ?_)
    have zz : k4.objs.size = hp.objs.size := by rw [y4.1, y3.1, y2.1, y1.1, y0.1]
    have z4 : ZS k4 z TI TO .ellipsis b0 := y4.extBut _ _ S.TOz.symm (y3.extBut _ _ S.zi2 (y2.extBut _ _ S.TOz.symm (y1.extBut _ _ S.zi1 z0)))
    have kp : ∀ c o, c ≠ z → c ≠ TO → c ≠ i1 → c ≠ i2 → hp.get? c = some o → k4.get? c = some o := fun c o cz cT c1 c2 e =>
      y4.extBut _ _ cT (y3.extBut _ _ c2 (y2.extBut _ _ cT (y1.extBut _ _ c1 (y0.extBut _ _ cz e))))
    have j1 : St1 (i + 1) k4 := D1.over (D1.over (D1.over sn1 y2 S.Tf1) y3 S.sep2_1) y4 S.Tf1
    have j2 : St2 (i + 1) k4 := D2.over sn2 y4 S.Tf2
    have zl : z < k4.objs.size := Heap.lt_size z4
    show wpAny _ _ (Builtin.SmallTypes.ownedTupleHandOut (.ref z) (.ref k4.objs.size) >>= _) _ _ ⟨k4.push { cls := .type "tuple", data := .seq #[x1, x2] }, g, d, tk2, os⟩
    refine wpAny_bind ?_
    unfold Builtin.SmallTypes.ownedTupleHandOut
    have z5 : ZS (k4.push { cls := .type "tuple", data := .seq #[x1, x2] }) z TI TO .ellipsis b0 := Heap.get?_push_of_some _ z4
    refine wpAny_bind (wpAny_setField_rec z5 (by simp) fun k6 z6 y6 => ?_)
    replace z6 : ZS k6 z TI TO (rawInt k4.objs.size) b0 := z6
    refine wpAny_setField_rec z6 (by simp) fun k7 z7 y7 => ?_
    replace z7 : ZS k7 z TI TO (rawInt k4.objs.size) false := z7
    replace y6 : Heap.SameBut z (k4.push { cls := .type "tuple", data := .seq #[x1, x2] }) k6 := y6
    replace y7 : Heap.SameBut z k6 k7 := y7
    have up : ∀ c o, c ≠ z → k4.get? c = some o → k7.get? c = some o := fun c o c1 e => y7.extBut _ _ c1 (y6.extBut _ _ c1 (Heap.get?_push_of_some _ e))
    have T7 : IsTupOf2 k7 k4.objs.size x1 x2 := y7.extBut _ _ (Nat.ne_of_gt zl) (y6.extBut _ _ (Nat.ne_of_gt zl) (Heap.get?_push_size _ rfl))
    have s7 : k7.objs.size = k4.objs.size + 1 := by rw [y7.1, y6.1, Heap.size_push]
    rw [zz] at z7 T7 s7
    refine wpAny_pure ⟨_, rfl, ?_⟩
    show Q (.ref k4.objs.size) ⟨k7, g, d, tk2, os⟩
    rw [zz]
    exact hQ x1 x2 k7 tk2 _ _ _ _ q1 q2 (.inr ⟨_, rfl⟩) z7 (up _ _ S.TOz U4) (D1.frame _ _ _ j1 fun b hb o e => up b o (fun q => S.zf1 (q ▸ hb)) e) (D2.frame _ _ _ j2 fun b hb o e => up b o (fun q => S.zf2 (q ▸ hb)) e) T7 s7 fun c o cz cT c1 c2 e => up c o cz (kp c o cz cT c1 c2 e)
  · simp only [Bool.false_eq_true, if_false]
    replace y0 : Heap.SameBut z hp k0 := y0
    refine wpAny_bind ?_
    rw [← Array.forIn_toList]
    simp only [List.forIn_cons, List.forIn_nil]
    refine wpAny_bind (wpAny_bind (wpAny_holding ?_))
    show wpAny _ _ (Builtin.SmallTypes.nextOf (.ref i1) >>= _) _ _ ⟨k0, g, d, tk0, os⟩
    refine wpAny_bind (D1.item i _ _ _ hlt1 (D1.over st1 y0 S.zf1) fun x1 k1 tk1 q1 sn1 y1 => wpAny_pure ?_)
    replace y1 : Heap.SameBut i1 k0 k1 := y1
    refine wpAny_pure ?_
    refine wpAny_bind (wpAny_bind (wpAny_holding ?_))
    show wpAny _ _ (Builtin.SmallTypes.nextOf (.ref i2) >>= _) _ _ ⟨k1, g, d, tk1, os⟩
    refine wpAny_bind (D2.item i _ _ _ hlt2 (D2.over (D2.over st2 y0 S.zf2) y1 S.sep1_2) fun x2 k2 tk2 q2 sn2 y2 => wpAny_pure ?_)
    replace y2 : Heap.SameBut i2 k1 k2 := y2
    refine wpAny_pure (wpAny_pure ?_)
    show wpAny _ _ (newTuple [x1, x2] >>= _) _ _ ⟨k2, g, d, tk2, os⟩
    refine wpAny_bind (wpAny_newTuple ?_)
    have zz : k2.objs.size = hp.objs.size := by rw [y2.1, y1.1, y0.1]
    have z2 : ZS k2 z TI TO v0 true := y2.extBut _ _ S.zi2 (y1.extBut _ _ S.zi1 z0)
    have kp : ∀ c o, c ≠ z → c ≠ i1 → c ≠ i2 → hp.get? c = some o → k2.get? c = some o := fun c o cz c1 c2 e => y2.extBut _ _ c2 (y1.extBut _ _ c1 (y0.extBut _ _ cz e))
    refine wpAny_pure ⟨_, rfl, ?_⟩
    show Q (.ref k2.objs.size) ⟨k2.push { cls := .type "tuple", data := .seq #[x1, x2] }, g, d, tk2, os⟩
    have hp' : IsTupOf2 (k2.push { cls := .type "tuple", data := .seq #[x1, x2] }) k2.objs.size x1 x2 := Heap.get?_push_size _ rfl
    have s2 : (k2.push { cls := .type "tuple", data := .seq #[x1, x2] }).objs.size = k2.objs.size + 1 := Heap.size_push ..
    rw [zz] at hp' s2 ⊢
    exact hQ x1 x2 _ tk2 v0 true _ _ q1 q2 hv (Heap.get?_push_of_some _ z2) (Heap.get?_push_of_some _ (kp _ _ S.TOz S.Ti1 S.Ti2 hTO)) (D1.frame _ _ _ (D1.over sn1 y2 S.sep2_1) fun b hb o e => Heap.get?_push_of_some _ e)
      (D2.frame _ _ _ sn2 fun b hb o e => Heap.get?_push_of_some _ e) hp' s2 fun c o cz cT c1 c2 e => Heap.get?_push_of_some _ (kp c o cz c1 c2 e)
theorem zs_end {Q : Fin → Shared → Prop} (S : ZipSep2 z TI TO i1 i2 fp1 fp2) (D1 : Draws prog w A i1 fp1 n1 P1 St1) (D2 : Draws prog w A i2 fp2 n2 P2 St2)
    (hz : ZS s.heap z TI TO v0 b0) (hv : Fo v0) (hTI : IsTupOf2 s.heap TI (.ref i1) (.ref i2)) (hTO : IsTupOf2 s.heap TO a1 a2) (st1 : St1 i s.heap) (st2 : St2 i s.heap) (hle1 : i ≤ n1) (hle2 : i ≤ n2) (hend : i = n1 ∨ i = n2)
    (hE : ∀ h' tk e, (∀ c o, c ≠ z → c ≠ TO → c ≠ i1 → c ≠ i2 → s.heap.get? c = some o → h'.get? c = some o) → (∃ o, h'.get? e = some o ∧ o.cls = .type "StopIteration") → E (.ref e) { s with heap := h', toks := tk }) :
    wpAny (model prog w) A (Builtin.«zip.__next__» ⟨[.ref z], []⟩) Q E s := by
  obtain ⟨hp, g, d, tk0, os⟩ := s
  show wpAny _ _ (field (.ref z) 2 >>= _) _ _ _
  refine wpAny_bind (wpAny_field hz rfl (x := .bool false) rfl ?_)
  show wpAny _ _ (field (.ref z) 3 >>= _) _ _ _
  refine wpAny_bind (wpAny_field hz rfl (x := .ref TI) rfl ?_)
  refine wpAny_bind (wpAny_seqItems hTI rfl ?_)
  show wpAny _ _ (Builtin.SmallTypes.ownedTupleIsFree (.ref z) >>= _) _ _ _
  refine wpAny_bind (zs_free hz hv ?_ fun k0 z0 y0 => ?_)
  · simp only [if_true]
    refine wpAny_bind (wpAny_rule ?_)
    refine wpAny_bind (wpAny_field hz rfl (x := .ref TO) rfl ?_)
    refine wpAny_bind (wpAny_setField_rec hz (by simp) fun k0 z0 y0 => ?_)
    replace z0 : ZS k0 z TI TO .ellipsis b0 := z0
    replace y0 : Heap.SameBut z hp k0 := y0
    refine wpAny_bind ?_
    simp only [List.zipIdx_cons, List.zipIdx_nil, List.forIn_cons, List.forIn_nil]
    refine wpAny_bind (wpAny_bind (wpAny_onRaise ?_))
    show wpAny _ _ (Builtin.SmallTypes.nextOf (.ref i1) >>= _) _ _ ⟨k0, g, d, tk0, os⟩
    by_cases hlt1 : i < n1
    · refine wpAny_bind (D1.item i _ _ _ hlt1 (D1.over st1 y0 S.zf1) fun x1 k1 tk1 q1 sn1 y1 => wpAny_pure ?_)
      replace y1 : Heap.SameBut i1 k0 k1 := y1
      have U1 : IsTupOf2 k1 TO a1 a2 := y1.extBut _ _ S.Ti1 (y0.extBut _ _ S.TOz hTO)
      refine wpAny_bind (wpAny_seqItems (s := ⟨k1, g, d, tk1, os⟩) U1 rfl ?_)
      refine wpAny_bind (updateSeq_IsTupOf2 (s := ⟨k1, g, d, tk1, os⟩) U1 fun k2 U2 y2 => ?_)
      replace y2 : Heap.SameBut TO k1 k2 := y2
      refine wpAny_bind (wpAny_letGo (wpAny_pure ?_))
      have e2 : i = n2 := by omega
      refine wpAny_bind (wpAny_bind (wpAny_onRaise ?_))
      show wpAny _ _ (Builtin.SmallTypes.nextOf (.ref i2) >>= _) _ _ ⟨k2, g, d, tk1, os⟩
      refine wpAny_bind (D2.done ⟨k2, g, d, tk1, os⟩ _ _ (by rw [← e2]; exact D2.over (D2.over (D2.over st2 y0 S.zf2) y1 S.sep1_2) y2 S.Tf2) fun k e yq he => ?_)
      replace yq : Heap.ExtBut i2 k2 k := yq
      obtain ⟨oe, hoe, hce⟩ := he
      replace hoe : k.get? e = some oe := hoe
      have zq : ZS k z TI TO .ellipsis b0 := yq _ _ S.zi2 (y2.extBut _ _ S.TOz.symm (y1.extBut _ _ S.zi1 z0))
      have ez : e ≠ z := fun x => by subst x; rw [zq] at hoe; cases hoe; simp at hce
      refine wpAny_setField_rec (s := ⟨k, g, d, tk1, os⟩) zq (by simp) fun k' _ yk => ?_
      replace yk : Heap.SameBut z k k' := yk
      exact hE k' tk1 e (fun c o cz cT c1 c2 x => yk.extBut _ _ cz (yq _ _ c2 (y2.extBut _ _ cT (y1.extBut _ _ c1 (y0.extBut _ _ cz x))))) ⟨oe, yk.extBut _ _ ez hoe, hce⟩
    · have e1 : i = n1 := by omega
      refine wpAny_bind (D1.done ⟨k0, g, d, tk0, os⟩ _ _ (by rw [← e1]; exact D1.over st1 y0 S.zf1) fun k e yq he => ?_)
      replace yq : Heap.ExtBut i1 k0 k := yq
      obtain ⟨oe, hoe, hce⟩ := he
      replace hoe : k.get? e = some oe := hoe
      have zq : ZS k z TI TO .ellipsis b0 := yq _ _ S.zi1 z0
      have ez : e ≠ z := fun x => by subst x; rw [zq] at hoe; cases hoe; simp at hce
      refine wpAny_setField_rec (s := ⟨k, g, d, tk0, os⟩) zq (by simp) fun k' _ yk => ?_
      replace yk : Heap.SameBut z k k' := yk
      exact hE k' tk0 e (fun c o cz cT c1 c2 x => yk.extBut _ _ cz (yq _ _ c1 (y0.extBut _ _ cz x))) ⟨oe, yk.extBut _ _ ez hoe, hce⟩
  · simp only [Bool.false_eq_true, if_false]
    replace y0 : Heap.SameBut z hp k0 := y0
    refine wpAny_bind ?_
    rw [← Array.forIn_toList]
    simp only [List.forIn_cons, List.forIn_nil]
    refine wpAny_bind (wpAny_bind (wpAny_holding ?_))
    show wpAny _ _ (Builtin.SmallTypes.nextOf (.ref i1) >>= _) _ _ ⟨k0, g, d, tk0, os⟩
    by_cases hlt1 : i < n1
    · refine wpAny_bind (D1.item i _ _ _ hlt1 (D1.over st1 y0 S.zf1) fun x1 k1 tk1 q1 sn1 y1 => wpAny_pure ?_)
      replace y1 : Heap.SameBut i1 k0 k1 := y1
      have e2 : i = n2 := by omega
      refine wpAny_pure ?_
      refine wpAny_bind (wpAny_bind (wpAny_holding ?_))
      show wpAny _ _ (Builtin.SmallTypes.nextOf (.ref i2) >>= _) _ _ ⟨k1, g, d, tk1, os⟩
      refine wpAny_bind (D2.done ⟨k1, g, d, tk1, os⟩ _ _ (by rw [← e2]; exact D2.over (D2.over st2 y0 S.zf2) y1 S.sep1_2) fun k e yq he => ?_)
      replace yq : Heap.ExtBut i2 k1 k := yq
      exact hE k tk1 e (fun c o cz cT c1 c2 x => yq _ _ c2 (y1.extBut _ _ c1 (y0.extBut _ _ cz x))) he
    · have e1 : i = n1 := by omega
      refine wpAny_bind (D1.done ⟨k0, g, d, tk0, os⟩ _ _ (by rw [← e1]; exact D1.over st1 y0 S.zf1) fun k e yq he => ?_)
      replace yq : Heap.ExtBut i1 k0 k := yq
      exact hE k tk0 e (fun c o cz cT c1 c2 x => yq _ _ c1 (y0.extBut _ _ cz x)) he
/-- enumerate's next, whatever its iterator's next is -/
theorem en_item {e it : Addr} {c : Int} {old : Value} {R : Value → Heap → Nat → Prop} {Q : Value → Shared → Prop} (he : IsEnum s.heap e it c old)
    (hn : ∀ (Q' : Value → Shared → Prop) E', (∀ x k tk, R x k tk → Q' x { s with heap := k, toks := tk }) → wpAny (model prog w) A (Builtin.SmallTypes.nextOf (.ref it)) Q' E' s) (hk : ∀ x k tk, R x k tk → IsEnum k e it c old)
    (hQ : ∀ x k tk h', R x k tk → IsEnumOut h' e it (c + 1) x k.objs.size → h'.get? k.objs.size = some { cls := .type "tuple", data := .seq #[.int c tk, x] } → h'.objs.size = k.objs.size + 1 →
      (∀ b o, b ≠ e → k.get? b = some o → h'.get? b = some o) → Q (.ref k.objs.size) { s with heap := h', toks := tk + 1 }) :
    wpAny (model prog w) A (Builtin.«enumerate.__next__» ⟨[.ref e], []⟩) (fun fin s' => ∃ v, fin = .done (.ret v) ∧ Q v s') E s := by
  obtain ⟨hp, g, d, tk0, os⟩ := s
  show wpAny _ _ (field (.ref e) 2 >>= _) _ _ _
  refine wpAny_bind (wpAny_field he rfl (x := .ref it) rfl ?_)
  refine wpAny_bind (hn _ _ fun x k1 tk r => ?_)
  have e1 := hk x k1 tk r
  show wpAny _ _ (field (.ref e) 3 >>= _) _ _ ⟨k1, g, d, tk, os⟩
  refine wpAny_bind (wpAny_field e1 rfl (x := rawInt c) rfl ?_)
  show wpAny _ _ (field (.ref e) 4 >>= _) _ _ ⟨k1, g, d, tk, os⟩
  refine wpAny_bind (wpAny_field e1 rfl (x := .none) rfl ?_)
  show wpAny _ _ (mkInt c >>= _) _ _ ⟨k1, g, d, tk, os⟩
  refine wpAny_bind (wpAny_mkInt ?_)
  show wpAny _ _ (setField (.ref e) 3 (rawInt (c + 1)) >>= _) _ _ ⟨k1, g, d, tk + 1, os⟩
  refine wpAny_bind (wpAny_setField_rec e1 (by simp) fun k2 e2 y2 => ?_)
  replace y2 : Heap.SameBut e k1 k2 := y2
  replace e2 : IsEnum k2 e it (c + 1) old := e2
  show wpAny _ _ (setField (.ref e) 4 .none >>= _) _ _ ⟨k2, g, d, tk + 1, os⟩
  refine wpAny_bind (wpAny_setField_rec e2 (by simp) fun k3 e3 y3 => ?_)
  replace y3 : Heap.SameBut e k2 k3 := y3
  replace e3 : IsEnum k3 e it (c + 1) old := e3
  show wpAny _ _ (newTuple [.int c tk, x] >>= _) _ _ ⟨k3, g, d, tk + 1, os⟩
  refine wpAny_bind (wpAny_newTuple ?_)
  have e4 : IsEnum (k3.push { cls := .type "tuple", data := .seq #[.int c tk, x] }) e it (c + 1) old := Heap.get?_push_of_some _ e3
  have zz : k3.objs.size = k1.objs.size := by rw [y3.1, y2.1]
  have el : e < k1.objs.size := Heap.lt_size e1
  have T4 : (k3.push { cls := .type "tuple", data := .seq #[.int c tk, x] }).get? k1.objs.size = some { cls := .type "tuple", data := .seq #[.int c tk, x] } := by rw [← zz]; exact Heap.get?_push_size _ rfl
  have s4 : (k3.push { cls := .type "tuple", data := .seq #[.int c tk, x] }).objs.size = k1.objs.size + 1 := by rw [Heap.size_push, zz]
  have up4 : ∀ b o, b ≠ e → k1.get? b = some o → (k3.push { cls := .type "tuple", data := .seq #[.int c tk, x] }).get? b = some o := fun b o ne q => Heap.get?_push_of_some _ (y3.extBut b o ne (y2.extBut b o ne q))
  generalize k3.push { cls := .type "tuple", data := .seq #[.int c tk, x] } = k4 at e4 T4 s4 up4
  show wpAny _ _ (Builtin.SmallTypes.ownedTupleIsFree (.ref e) >>= _) _ _ ⟨k4, g, d, tk + 1, os⟩
  rw [zz]
  clear y3 e3 y2 e2 zz
  refine wpAny_bind ?_
  · unfold Builtin.SmallTypes.ownedTupleIsFree
    refine wpAny_bind (wpAny_field e4 rfl (x := .none) rfl (wpAny_pure ?_))
    simp only [if_true]
    refine wpAny_bind (wpAny_rule ?_)
    refine wpAny_bind (wpAny_field e4 rfl (x := old) rfl ?_)
    refine wpAny_bind (wpAny_setField_rec e4 (by simp) fun k5 e5 y5 => ?_)
    replace y5 : Heap.SameBut e k4 k5 := y5
    replace e5 : IsEnum k5 e it (c + 1) x := e5
    show wpAny _ _ (Builtin.SmallTypes.ownedTupleHandOut (.ref e) (.ref k1.objs.size) >>= _) _ _ ⟨k5, g, d, tk + 1, os⟩
    refine wpAny_bind ?_
    · unfold Builtin.SmallTypes.ownedTupleHandOut
      refine wpAny_bind (wpAny_setField_rec e5 (by simp) fun k6 e6 y6 => ?_)
      replace y6 : Heap.SameBut e k5 k6 := y6
      replace e6 : IsEnumOut k6 e it (c + 1) x k1.objs.size := e6
      refine wpAny_setField_rec e6 (by simp) fun k7 e7 y7 => ?_
      replace y7 : Heap.SameBut e k6 k7 := y7
      replace e7 : IsEnumOut k7 e it (c + 1) x k1.objs.size := e7
      refine wpAny_bind (wpAny_letGo (wpAny_pure ⟨_, rfl, hQ x k1 tk k7 r e7 ?_ ?_ ?_⟩))
      · exact y7.extBut _ _ (Nat.ne_of_gt el) (y6.extBut _ _ (Nat.ne_of_gt el) (y5.extBut _ _ (Nat.ne_of_gt el) T4))
      · rw [y7.1, y6.1, y5.1, s4]
      · exact fun b o ne q => y7.extBut b o ne (y6.extBut b o ne (y5.extBut b o ne (up4 b o ne q)))
theorem zs_iter {fs : Array Value} {Q : Value → Shared → Prop} (hz : s.heap.get? z = some { cls := .type "zip", dict := none, data := .fields fs, slots := #[] }) (h : Q (.ref z) s) : wpAny (model prog w) A (pyIter (.ref z)) Q E s := by
  have hT : s.TypeIs (.ref z) "zip" := ⟨_, hz, rfl⟩
  refine wpAny_pyIter_slot hT F.slot_zip_iter (wpAny_call_entry F.slot_zip_iter hT F.entry_zip_iter ?_ (F.args_zip_iter_1 _))
  show wpAny _ _ (ret (.ref z)) _ _ s
  exact wpAny_pure ⟨_, rfl, "zip", _, hT, F.slot_zip_next.lookup, h⟩
/-- enumerate over a zip that is already there -/
theorem meets_en_zip (z : Addr) (fs : Array Value) :
    Meets (Builtin.«enumerate.__new__» ⟨[.type "enumerate", .ref z], []⟩) (fun _ R s => s.heap.get? z = some { cls := .type "zip", dict := none, data := .fields fs, slots := #[] } ∧
      R (.ok (.ret (.ref s.heap.objs.size))) { s with heap := s.heap.push { cls := .type "enumerate", data := .fields #[.none, .bool false, .ref z, rawInt 0, .none, .none] } }) :=
  .of_wp fun prog w A R s h => by
    obtain ⟨hp, g, d, tk, os⟩ := s; obtain ⟨h1, h⟩ := h
    have hsub := sub_enumerate
    have q1 : ∀ {A' : Around} {E : Value → Shared → Prop} {Q : Value → Shared → Prop}, Q (.ref z) ⟨hp, g, d, tk, os⟩ → wpAny (model prog w) A' (pyIter (.ref z)) Q E ⟨hp, g, d, tk, os⟩ := fun q => zs_iter h1 q
    wp_walk using q1
    refine wpAny_stack_any fun st => wpAny_pure ?_
    split
    · rename_i c _ _ _ _ _
      cases (c == Value.type "enumerate")
      · wp_walk using q1
        exact ⟨_, rfl, h⟩
      · wp_walk using q1
        exact ⟨_, rfl, h⟩
    · wp_walk using q1
      exact ⟨_, rfl, h⟩
end
end Mi
end
section
set_option Elab.async false
set_option linter.all false
set_option maxRecDepth 100000
set_option maxHeartbeats 2000000
namespace Mi
open PySem PySem.Spec PyProof.Rows L2
/-- enumerate(zip(a, b)): a number, and a pair of items -/
def ItEZ (K : PySem.W.Frag) (b1 b2 : Bool) (a1 a2 : Addr) : It :=
  ⟨fun i H => ∃ (xs ys : List V) (x y : V), SqX K b1 H a1 xs ∧ SqX K b2 H a2 ys ∧ xs[i]? = some x ∧ ys[i]? = some y,
    fun i H v H' => ∃ T2 T x y, v = .ref T ∧ H T2 = none ∧ H T = none ∧ T ≠ T2 ∧ H' = upd (upd H T2 (.tup [x, y])) T (.tup [.int ((i : Nat) : Int), .ref T2]) ∧ (∀ xs, SqX K b1 H a1 xs → xs[i]? = some x) ∧ ∀ ys, SqX K b2 H a2 ys → ys[i]? = some y,
    fun i H => ∃ xs ys : List V, SqX K b1 H a1 xs ∧ SqX K b2 H a2 ys ∧ i ≤ xs.length ∧ i ≤ ys.length ∧ (xs.length = i ∨ ys.length = i)⟩
/-- a source, and its iterator, at any place that handles nothing -/
theorem draws_at {X : Cx} {A : Around} {pins : List (Addr × Obj)} {σ : L2.St} {H : Hp} {s : Shared} {b : Bool} {a it : Addr} {vs : List V} (hh : A.handled = none) (I : Inv X pins σ H s) (h : SqX X.K b H a vs) (hne : a ≠ it) :
    ∃ (its : List Value) (St : Nat → Heap → Prop), Vals vs its ∧ a < s.heap.objs.size ∧ Draws X.prog X.w A it [it, a] its.toArray.size (fun i v => its.toArray[i]? = some v) St ∧
      (∀ i, itAt b s.heap it a i → St i s.heap) ∧ ∀ i h', St i h' → itAt b h' it a i := by
  unfold SqX at h
  cases b with
  | true =>
    rw [if_pos rfl] at h
    obtain ⟨its, rv, p, _⟩ := I.tuple h
    have p2 : s.heap.IsTuple a its.toArray := p
    obtain ⟨o, ho, _⟩ := id p
    refine ⟨its, _, rv, Heap.lt_size ho, Draws.tuple (A := A) hh it a hne its.toArray, fun i z => ⟨?_, p2⟩, fun i h' z => ?_⟩
    · unfold itAt at z; rw [if_pos rfl] at z; exact z
    · unfold itAt; rw [if_pos rfl]; exact z.1
  | false =>
    rw [if_neg Bool.false_ne_true] at h
    obtain ⟨its, rv, p, _⟩ := I.list h
    refine ⟨its, _, rv, p.lt, Draws.list (A := A) hh it a hne its.toArray, fun i z => ⟨?_, p.isList⟩, fun i h' z => ?_⟩
    · unfold itAt at z; rw [if_neg Bool.false_ne_true] at z; exact z
    · unfold itAt; rw [if_neg Bool.false_ne_true]; exact z.1
theorem turn_EZ {P : Program} {w : World} {K : PySem.W.Frag} {elts : List Expr} {kk : Nat} {tpos : Pos} {b1 b2 : Bool} {a b z TI TO i1 i2 e : Addr} (D : ZipApart z TI TO i1 i2 a b) (ez : e ≠ z) (eTO : e ≠ TO) (eTI : e ≠ TI) (e1 : e ≠ i1) (e2 : e ≠ i2) :
    Turn P w K (.Tuple elts kk tpos) (ItEZ K b1 b2 a b) [e, z, TI, TO, i1, i2] e (fun i h => (∃ old, IsEnum h e z ((i : Nat) : Int) old) ∧ (∃ v f, Fo v ∧ ZS h z TI TO v f) ∧ IsPair h TI (.ref i1) (.ref i2) ∧ (∃ x y, IsPair h TO x y) ∧ itAt b1 h i1 a i ∧ itAt b2 h i2 b i) where
  mem := by simp
  obj := fun i h st c hc => by
    obtain ⟨⟨old, he⟩, ⟨v, f, _, hz⟩, hTI, ⟨x, y, hTO⟩, h1, h2⟩ := st
    have e' : c = e ∨ c = z ∨ c = TI ∨ c = TO ∨ c = i1 ∨ c = i2 := by simpa using hc
    rcases e' with q | q | q | q | q | q
    · rw [q]; exact ⟨_, he, fun v q => nomatch q⟩
    · rw [q]; exact ⟨_, hz, fun v q => nomatch q⟩
    · rw [q]; exact ⟨_, hTI, fun v q => nomatch q⟩
    · rw [q]; exact ⟨_, hTO, fun v q => nomatch q⟩
    · rw [q]; exact h1.obj
    · rw [q]; exact h2.obj
  keep := fun i h h' st k => by
    obtain ⟨⟨old, he⟩, ⟨v, f, hv, hz⟩, hTI, ⟨x, y, hTO⟩, h1, h2⟩ := st
    exact ⟨⟨old, k e (by simp) _ he⟩, ⟨v, f, hv, k z (by simp) _ hz⟩, k TI (by simp) _ hTI, ⟨x, y, k TO (by simp) _ hTO⟩, h1.keep fun o q => k i1 (by simp) o q, h2.keep fun o q => k i2 (by simp) o q⟩
  item := by
    intro X hP hw hK hc i pins s σ H E I hf st hg
    subst hP hw hK
    obtain ⟨⟨old, he⟩, ⟨v0, f0, hv, hz⟩, hTI, ⟨x0, y0, hTO⟩, h1, h2⟩ := st
    obtain ⟨xs, ys, x, y, hqx, hqy, hx, hy⟩ := hg
    have hh : X.A.in1.in1.handled = none := I.ok.hd hc
    obtain ⟨its, St1, rv, la, D1, in1, out1⟩ := draws_at (it := i1) hh I hqx D.l1i1
    obtain ⟨its2, St2, rv2, lb, D2, in2, out2⟩ := draws_at (it := i2) hh I hqy D.l2i2
    obtain ⟨u, hu, ru⟩ := rv.get hx
    obtain ⟨u2, hu2, ru2⟩ := rv2.get hy
    have hzl : z < s.heap.objs.size := Heap.lt_size hz
    have hel : e < s.heap.objs.size := Heap.lt_size he
    have n1 : i < its.toArray.size := by
      rw [List.size_toArray, ← rv.length]
      exact (List.getElem?_eq_some_iff.mp hx).1
    have n2 : i < its2.toArray.size := by
      rw [List.size_toArray, ← rv2.length]
      exact (List.getElem?_eq_some_iff.mp hy).1
    let R : Value → Heap → Nat → Prop := fun r k tk => r = .ref s.heap.objs.size ∧ (∃ v f, Fo v ∧ ZS k z TI TO v f) ∧ (∃ x y, IsPair k TO x y) ∧ itAt b1 k i1 a (i + 1) ∧ itAt b2 k i2 b (i + 1) ∧ IsPair k s.heap.objs.size u u2 ∧ k.objs.size = s.heap.objs.size + 1 ∧
      ∀ c o, c ≠ z → c ≠ TO → c ≠ i1 → c ≠ i2 → s.heap.get? c = some o → k.get? c = some o
    have hzT : s.TypeIs (.ref z) "zip" := ⟨_, hz, rfl⟩
    have heT : s.TypeIs (.ref e) "enumerate" := ⟨_, he, rfl⟩
    have nx : ∀ (Q' : Value → Shared → Prop) E', (∀ r k tk, R r k tk → Q' r { s with heap := k, toks := tk }) → wpAny (model X.prog X.w) X.A.in1 (Builtin.SmallTypes.nextOf (.ref z)) Q' E' s := fun Q' E' hQ' => by
      unfold Builtin.SmallTypes.nextOf
      refine wpAny_bind (wpAny_callSpecial?_slot (name := Str.ofString "__next__") hzT F.slot_zip_next
        (wpAny_call_entry F.slot_zip_next hzT F.entry_zip_next (zs_item (sep_of D) D1 D2 hz hv hTI hTO (in1 i h1) (in2 i h2) n1 n2 fun p1 p2 k tk v f c1 c2 q1 q2 hv' z' TO' st1' st2' hT hsz kp => ?_) (F.args_zip_next_1 _)))
      have ex1 : p1 = u := by
        have q : its.toArray[i]? = some u := by simpa using hu
        rw [q] at q1
        cases q1
        rfl
      have ex2 : p2 = u2 := by
        have q : its2.toArray[i]? = some u2 := by simpa using hu2
        rw [q] at q2
        cases q2
        rfl
      subst ex1 ex2
      exact wpAny_pure (hQ' _ k tk ⟨rfl, ⟨v, f, hv', z'⟩, ⟨_, _, TO'⟩, out1 _ _ st1', out2 _ _ st2', hT, hsz, kp⟩)
    have keE : ∀ r k tk, R r k tk → IsEnum k e z ((i : Nat) : Int) old := fun r k tk ⟨_, _, _, _, _, _, _, kp⟩ => kp e _ ez eTO e1 e2 he
    unfold pyNext
    refine wpAny_bind (wpAny_attempt (wpAny_callSpecial?_slot (name := Str.ofString "__next__") heT F.slot_enumerate_next
      (wpAny_call_entry F.slot_enumerate_next heT F.entry_enumerate_next (en_item he nx keE fun r k tk h' ⟨er, ⟨v, f, hv', z'⟩, ⟨c1, c2, TO'⟩, j1, j2, hT, hsz, kp⟩ ho hT2 hsz2 kp2 => ?_) (F.args_enumerate_next_1 _))))
    subst er
    refine wpAny_pure ⟨_, rfl, wpAny_letOwnedTupleGo_enum (s := { s with heap := h', toks := tk + 1 }) ho fun h'' he' sb => ?_⟩
    replace sb : Heap.SameBut e h' h'' := sb
    have hN : H s.heap.objs.size = none := I.hok.fresh (Nat.le_refl _)
    have lz : ∀ c ∈ [z, TI, TO, i1, i2], c < s.heap.objs.size := fun c hcm => by
      have e' : c = z ∨ c = TI ∨ c = TO ∨ c = i1 ∨ c = i2 := by simpa using hcm
      rcases e' with q | q | q | q | q
      · rw [q]; exact hzl
      · rw [q]; exact Heap.lt_size hTI
      · rw [q]; exact Heap.lt_size hTO
      · rw [q]; obtain ⟨_, e1, _⟩ := h1.obj; exact Heap.lt_size e1
      · rw [q]; obtain ⟨_, e2, _⟩ := h2.obj; exact Heap.lt_size e2
    have le : ∀ c ∈ [e, z, TI, TO, i1, i2], c < s.heap.objs.size := fun c hcm => by
      rcases List.mem_cons.mp hcm with q | q
      · rw [q]; exact hel
      · exact lz c q
    have new1 : ObjOk X.prog X.w (upd H s.heap.objs.size (.tup [x, y])) k s.heap.objs.size (.tup [x, y]) :=
      ⟨by show 2 ≤ sizeLine; decide, [u, u2], .cons ru (.cons ru2 .nil), ⟨_, hT, rfl, _, rfl⟩⟩
    have I1 : Inv X pins σ (upd H s.heap.objs.size (.tup [x, y])) { s with heap := k, toks := tk } :=
      I.turnedNew (t' := tk) (ch := [z, TI, TO, i1, i2]) (fun c o hb q => kp c o (fun q' => hb (by simp [q'])) (fun q' => hb (by simp [q'])) (fun q' => hb (by simp [q'])) (fun q' => hb (by simp [q'])) q) (fun c hc => hf c (List.mem_cons_of_mem _ hc)) (Nat.le_refl _) new1
    have ksz : k.objs.size = s.heap.objs.size + 1 := hsz
    have hf1 : ∀ c ∈ [e], FpOk X pins (upd H s.heap.objs.size (.tup [x, y])) c := fun c hc => by
      have ec : c = e := by simpa using hc
      subst ec
      obtain ⟨f0, f1, f2, f3, f4, f5⟩ := hf c (by simp)
      exact ⟨by rw [upd_ne (Nat.ne_of_lt hel)]; exact f0, f1, f2, f3, f4, f5⟩
    have hT3 : h''.get? k.objs.size = some { cls := .type "tuple", data := .seq #[.int ((i : Nat) : Int) tk, .ref s.heap.objs.size] } := (sb.2 _ (Nat.ne_of_gt (by rw [ksz]; exact Nat.lt_succ_of_lt hel))).trans hT2
    have new2 : ObjOk X.prog X.w (upd (upd H s.heap.objs.size (.tup [x, y])) k.objs.size (.tup [.int ((i : Nat) : Int), .ref s.heap.objs.size])) h'' k.objs.size (.tup [.int ((i : Nat) : Int), .ref s.heap.objs.size]) :=
      ⟨by show 2 ≤ sizeLine; decide, [.int ((i : Nat) : Int) tk, .ref s.heap.objs.size], .cons ⟨_, rfl⟩ (.cons rfl .nil), ⟨_, hT3, rfl, _, rfl⟩⟩
    have I2 : Inv X pins σ (upd (upd H s.heap.objs.size (.tup [x, y])) k.objs.size (.tup [.int ((i : Nat) : Int), .ref s.heap.objs.size])) { s with heap := h'', toks := tk + 1 } :=
      I1.turnedNew (t' := tk + 1) (ch := [e]) (fun c o hb q => (sb.2 c (fun q' => hb (by simp [q']))).trans (kp2 c o (fun q' => hb (by simp [q'])) q)) hf1 (Nat.le_refl _) new2
    have neT : k.objs.size ≠ s.heap.objs.size := by rw [ksz]; exact Nat.succ_ne_self _
    have hN2 : H k.objs.size = none := I.hok.fresh (by rw [ksz]; exact Nat.le_succ _)
    have st2 : ∀ c o, c ≠ e → k.get? c = some o → h''.get? c = some o := fun c o ne q => (sb.2 c ne).trans (kp2 c o ne q)
    refine ⟨.ref k.objs.size, _, I2, rfl, ⟨_, _, x, y, rfl, hN, hN2, neT, rfl, fun l hl => by rw [sqX_inj I hl hqx]; exact hx, fun l hl => by rw [sqX_inj I hl hqy]; exact hy⟩, ⟨⟨.ref s.heap.objs.size, ?_⟩, ⟨v, f, hv', st2 _ _ (Ne.symm ez) z'⟩, ?_, ⟨c1, c2, st2 _ _ (Ne.symm eTO) TO'⟩, j1.keep fun o q => st2 _ o (Ne.symm e1) q, j2.keep fun o q => st2 _ o (Ne.symm e2) q⟩, fun c hcm => ?_⟩
    · have e1 : ((i + 1 : Nat) : Int) = (i : Int) + 1 := by omega
      rw [e1]; exact he'
    · exact st2 _ _ (Ne.symm eTI) (kp _ _ D.TIz D.TITO D.TIi1 D.TIi2 hTI)
    · have hlt := le c hcm
      rw [upd_ne (Nat.ne_of_lt (by rw [ksz]; exact Nat.lt_succ_of_lt hlt)), upd_ne (Nat.ne_of_lt hlt)]
      exact (hf c hcm).1
  done := by
    intro X hP hw hK hc i pins s σ H E I hf st hg
    subst hP hw hK
    obtain ⟨⟨old, he⟩, ⟨v0, f0, hv, hz⟩, hTI, ⟨x0, y0, hTO⟩, h1, h2⟩ := st
    obtain ⟨xs, ys, hqx, hqy, l1, l2, hend⟩ := hg
    have hh : X.A.in1.in1.handled = none := I.ok.hd hc
    obtain ⟨its, St1, rv, la, D1, in1, out1⟩ := draws_at (it := i1) hh I hqx D.l1i1
    obtain ⟨its2, St2, rv2, lb, D2, in2, out2⟩ := draws_at (it := i2) hh I hqy D.l2i2
    have q1 := rv.length
    have q2 := rv2.length
    have hzT : s.TypeIs (.ref z) "zip" := ⟨_, hz, rfl⟩
    have heT : s.TypeIs (.ref e) "enumerate" := ⟨_, he, rfl⟩
    unfold pyNext
    refine wpAny_bind (wpAny_attempt (wpAny_callSpecial?_slot (name := Str.ofString "__next__") heT F.slot_enumerate_next
      (wpAny_call_entry F.slot_enumerate_next heT F.entry_enumerate_next ?_ (F.args_enumerate_next_1 _))))
    show wpAny _ _ (field (.ref e) 2 >>= _) _ _ _
    refine wpAny_bind (wpAny_field he rfl (x := .ref z) rfl ?_)
    refine wpAny_bind ?_
    unfold Builtin.SmallTypes.nextOf
    refine wpAny_bind (wpAny_callSpecial?_slot (name := Str.ofString "__next__") hzT F.slot_zip_next
      (wpAny_call_entry F.slot_zip_next hzT F.entry_zip_next (zs_end (sep_of D) D1 D2 hz hv hTI hTO (in1 i h1) (in2 i h2) (by simp; omega) (by simp; omega) (by simp; omega) fun k tk x kp hx => ?_) (F.args_zip_next_1 _)))
    obtain ⟨o, ho, hc'⟩ := hx
    refine wpAny_bind (wpAny_isInstance (T := "StopIteration") (b := true) ⟨o, ho, hc'⟩ isSubtype_stop ?_)
    exact wpAny_pure ⟨rfl, I.turnedL (t' := tk) (ch := [e, z, TI, TO, i1, i2]) (fun c o hb q => kp c o (fun q' => hb (by simp [q'])) (fun q' => hb (by simp [q'])) (fun q' => hb (by simp [q'])) (fun q' => hb (by simp [q'])) q) hf⟩
  self := fun A i s Q E st h => let ⟨⟨_, he⟩, _⟩ := st; wpAny_pyIter_enum he h
end Mi
end
section
set_option Elab.async false
set_option linter.all false
set_option maxRecDepth 100000
set_option maxHeartbeats 2000000
namespace Mi
open PySem PySem.Spec PyProof.Rows L2
def iEnumZip (K : PySem.W.Frag) (ta : TA) : TI := fun σ H R => ta σ H fun vs H1 => ∃ b1 b2 a b xs ys, vs = [.ref a, .ref b] ∧ SqX K b1 H1 a xs ∧ SqX K b2 H1 b ys ∧ R (ItEZ K b1 b2 a b) H1
theorem pi_EZ {X : Cx} {e e2 : Expr} {ta : TA} {p p2 pos pos2 tpos : Pos} {elts : List Expr} {kk : Nat} (hg : Gl X "enumerate") (hm : X.mg "enumerate" = none) (hg2 : Gl X "zip") (hm2 : X.mg "zip" = none) (ha : PA X [e, e2] ta)
    (hs1 : starEach [.Call (.Name "zip" p2) [e, e2] [] pos2] X.env = [(false, eval (.Call (.Name "zip" p2) [e, e2] [] pos2) X.env)] := by rfl)
    (hs : starEach [e, e2] X.env = (false, eval e X.env) :: starEach [e2] X.env := by rfl) (hpl : (backTo pos2 (starEach [e2] X.env)).any (·.1) = false := by rfl) :
    PI X (.Tuple elts kk tpos) (.Call (.Name "enumerate" p) [.Call (.Name "zip" p2) [e, e2] [] pos2] [] pos) (iEnumZip X.K ta) := by
  refine ⟨fun pins s σ H R I h => ?_⟩
  refine Call_ (ld_blt I hg hm boot_enumerate (PyProof.Rows.callWith_type1 ?_ hs1 rfl))
  rw [hs1]
  show wpAny _ _ (spliced ((false, eval (.Call (.Name "zip" p2) [e, e2] [] pos2) X.env) :: backTo pos (starEach [] X.env))) _ _ s
  refine Calls.spliced_cons ?_
  refine Call_ (ld_blt I hg2 hm2 PyProof.Rows.boot_zip (PyProof.Rows.callWith_type1 (thn (ha.run pos2 pins s σ H _ I h) fun us s1 ⟨vs, H1, I1, r1, q1⟩ => ?_) hs hpl))
  obtain ⟨b1, b2, a, b, xs, ys, ex, hqx, hqy, q⟩ := q1
  subst ex
  cases r1 with
  | cons r rr =>
    cases rr with
    | cons r' rr =>
      cases rr
      cases r
      cases r'
      obtain ⟨o1, Hh1, B1, k1, la, at1⟩ := begins_of I1 hqx
      obtain ⟨o2, Hh2, B2, k2, lb, at2⟩ := begins_of I1 hqy
      refine zip_begins2 B1 B2 k1 k2 fun h' hz hTI hTO g1 g2 hsz hk => ?_
      refine Calls.spliced_nil ?_
      refine callType_new F.called_enumerate (by decide) (F.typeCall_enumerate_1 _) (F.newCall_enumerate_1 _) (fun obj => F.args_object_init_2 obj _) F.entry_enumerate_new
        (meets_en_zip _ _) ⟨hz, ?_⟩
      have he : IsEnum (h'.push { cls := .type "enumerate", data := .fields #[.none, .bool false, .ref (s1.heap.objs.size + 4), rawInt 0, .none, .none] }) h'.objs.size (s1.heap.objs.size + 4) 0 .none := Heap.get?_push_size _ rfl
      refine ⟨⟨_, he, rfl⟩, wpAny_pyIter_enum he ?_⟩
      have hk2 : ∀ c o, s1.heap.get? c = some o → (h'.push { cls := .type "enumerate", data := .fields #[.none, .bool false, .ref (s1.heap.objs.size + 4), rawInt 0, .none, .none] }).get? c = some o := fun c o z => Heap.get?_push_of_some _ (hk c o z)
      have I2 := I1.kept (t' := s1.toks) hk2
      have fresh5 : ∀ c, c ∈ [h'.objs.size, s1.heap.objs.size + 4, s1.heap.objs.size + 2, s1.heap.objs.size + 3, s1.heap.objs.size, s1.heap.objs.size + 1] → FpOk X pins H1 c := fun c hcm => by
        have e' : c = h'.objs.size ∨ c = s1.heap.objs.size + 4 ∨ c = s1.heap.objs.size + 2 ∨ c = s1.heap.objs.size + 3 ∨ c = s1.heap.objs.size ∨ c = s1.heap.objs.size + 1 := by simpa using hcm
        have hle : s1.heap.objs.size ≤ c := by
          rcases e' with z | z | z | z | z | z
          · rw [z, hsz]; exact Nat.le_add_right _ _
          · rw [z]; exact Nat.le_add_right _ _
          · rw [z]; exact Nat.le_add_right _ _
          · rw [z]; exact Nat.le_add_right _ _
          · rw [z]; exact Nat.le_refl _
          · rw [z]; exact Nat.le_add_right _ _
        exact I1.fpOk hle (I1.hok.fresh hle)
      have ne : ∀ j : Nat, j < 5 → h'.objs.size ≠ s1.heap.objs.size + j := fun j hj => by rw [hsz]; omega
      exact ⟨h'.objs.size, _, _, _, H1, rfl, I2, turn_EZ (PySem.W.ktu_apart s1.heap.objs.size a b la lb) (ne 4 (by decide)) (ne 3 (by decide)) (ne 2 (by decide)) (ne 0 (by decide)) (ne 1 (by decide)),
        ⟨⟨.none, he⟩, ⟨.none, false, .inl rfl, Heap.get?_push_of_some _ hz⟩, Heap.get?_push_of_some _ hTI, ⟨_, _, Heap.get?_push_of_some _ hTO⟩, (at1 _ _ g1).keep fun o z => Heap.get?_push_of_some _ z, (at2 _ _ g2).keep fun o z => Heap.get?_push_of_some _ z⟩, fresh5, q⟩
/-- numbered pairs -/
def enumP (xs ys : List PV) : List PV := (xs.zip ys).zipIdx.map fun p => .tup [.int (p.2 : Nat), .tup [p.1.1, p.1.2]]
theorem itOk_enum {g : Gm} {m : Mm} {H : Hp} {x y : PV} {a b : Addr} {xs ys : List PV} (r : Rep g m H x (.ref a)) (e : srcP x = some xs) (r' : Rep g m H y (.ref b)) (e' : srcP y = some ys) : ItOk g (ItEZ g.K (srcT x) (srcT y) a b) (enumP xs ys) m H := by
  refine ⟨fun m1 H1 S i t s hS ey => ?_, fun m1 H1 S i s hS hl => ?_⟩
  · obtain ⟨b1, vs, eb, h1, h2⟩ := src_rep (Rep.emb s _ _ r) e
    cases eb
    obtain ⟨b2, us, eb, h1', h2'⟩ := src_rep (Rep.emb s _ _ r') e'
    cases eb
    unfold enumP at ey
    rw [List.getElem?_map, List.getElem?_zipIdx] at ey
    cases e3 : (xs.zip ys)[i]? with
    | none => rw [e3] at ey; cases ey
    | some pq =>
      rw [e3] at ey
      simp only [Option.map_some, Option.some.injEq, Nat.zero_add] at ey
      subst ey
      obtain ⟨ex, ey⟩ := List.getElem?_zip_eq_some.mp e3
      obtain ⟨w, ew, r1⟩ := h2.get ex
      obtain ⟨w', ew', r2⟩ := h2'.get ey
      refine ⟨⟨vs, us, w, w', h1, h1', ew, ew'⟩, fun v H' ⟨T2, TA, x', y', ev, hT2, hT, neT, eH, f1, f2⟩ => ?_⟩
      have q1 := f1 vs h1
      have q2 := f2 us h1'
      rw [ew] at q1
      rw [ew'] at q2
      cases q1
      cases q2
      subst ev eH
      have st := step_new (m := m1) (o := HO.tup [w, w']) hT2
      have hS2 := hS.new (o := HO.tup [w, w']) hT2
      have hT' : upd H1 T2 (.tup [w, w']) TA = none := by rw [upd_ne neT]; exact hT
      have st2 := step_new (m := m1) (o := HO.tup [.int ((i : Nat) : Int), .ref T2]) hT'
      refine ⟨st.trans st2, hS2.new hT', ?_⟩
      have inner : Rep g m1 (upd H1 T2 (.tup [w, w'])) (.tup [pq.1, pq.2]) (.ref T2) := by
        unfold Rep
        exact ⟨_, _, rfl, .inl (.inl upd_same), (RepL.cons r1 (RepL.cons r2 RepL.nil)).step st⟩
      unfold Rep
      exact ⟨_, _, rfl, .inl (.inl upd_same), (RepL.cons (mk_int _) (RepL.cons inner RepL.nil)).step st2⟩
  · obtain ⟨b1, vs, eb, h1, h2⟩ := src_rep (Rep.emb s _ _ r) e
    cases eb
    obtain ⟨b2, us, eb, h1', h2'⟩ := src_rep (Rep.emb s _ _ r') e'
    cases eb
    unfold enumP at hl
    rw [List.length_map, List.length_zipIdx, List.length_zip] at hl
    have e1 := h2.length
    have e2 := h2'.length
    exact ⟨vs, us, h1, h1', by omega, by omega, by omega⟩
def iEnZ (dl : EnP → Sto → Res (List PV)) : EnP → Sto → Res (List PV) := fun ρ S => (dl ρ S).bind fun xs S1 => match xs with
  | [x, y] => (match srcP x, srcP y with
    | some a, some b => .ok (enumP a b) S1
    | _, _ => .bad)
  | _ => .bad
section
variable {X : Cx} {T : Tb} {W : WX} {pos pos2 tpos p p2 : Pos} {e e2 : Expr} {elts : List Expr} {kk : Nat} {dl : EnP → Sto → Res (List PV)}
theorem ci_enzip (hg : Gl X "enumerate") (hm : X.mg "enumerate" = none) (hg2 : Gl X "zip") (hm2 : X.mg "zip" = none) (ha : CA X T W [e, e2] dl)
    (hs1 : starEach [.Call (.Name "zip" p2) [e, e2] [] pos2] X.env = [(false, eval (.Call (.Name "zip" p2) [e, e2] [] pos2) X.env)] := by rfl)
    (hs : starEach [e, e2] X.env = (false, eval e X.env) :: starEach [e2] X.env := by rfl) (hpl : (backTo pos2 (starEach [e2] X.env)).any (·.1) = false := by rfl) :
    CI X T W (.Tuple elts kk tpos) (.Call (.Name "enumerate" p) [.Call (.Name "zip" p2) [e, e2] [] pos2] [] pos) (iEnZ dl) :=
  pi_imp (pi_EZ hg hm hg2 hm2 ha hs1 hs hpl) fun σ H R ⟨ρ, S, m, hE, hS, p⟩ =>
    tr_bindE (f := fun (xs : List PV) (_ : EnP) (S1 : Sto) => match xs with
      | [x, y] => (match srcP x, srcP y with
        | some a, some b => Res.ok (enumP a b) S1
        | _, _ => .bad)
      | _ => .bad) hE hS p fun xs S1 m1 H1 ws ed s1 hE1 hS1 hr1 p1 => by
      split at p1
      · rename_i x y
        split at p1
        · rename_i a b e1 e2
          obtain ⟨v, u, rfl, r1, r2⟩ := two_rep hr1
          obtain ⟨a1, vs, rfl, k1, _⟩ := src_rep r1 e1
          obtain ⟨a2, us, rfl, k2, _⟩ := src_rep r2 e2
          exact ⟨_, _, a1, a2, vs, us, rfl, k1, k2, PostR.here (a := enumP a b) p1 hS1 (itOk_enum r1 e1 r2 e2)⟩
        · exact p1.elim
      · exact p1.elim
end
end Mi
end
section
set_option Elab.async false
set_option linter.all false
set_option maxRecDepth 100000
set_option maxHeartbeats 1000000
/-! fractions as core's rationals -/
namespace Ra
open PySem PySem.Spec PyProof.Rows L2 Mi
def eQ (q : Rat) : PV := .tup [.int q.num, .int (q.den : Int)]
theorem den0 (q : Rat) : (q.den : Int) ≠ 0 := by have := q.den_pos; omega
theorem den_p (q : Rat) : 0 < (q.den : Int) := by have := q.den_pos; omega
/-- lowest terms of a over b -/
theorem num_div {a b : Int} (hb : 0 < b) : (Rat.divInt a b).num = a.fdiv (Int.gcd a b) := by
  rw [Rat.num_divInt, Int.sign_eq_one_of_pos hb, Int.one_mul, Int.gcd_comm, Int.fdiv_eq_ediv_of_nonneg _ (Int.natCast_nonneg _)]
theorem den_div {a b : Int} (hb : 0 < b) : ((Rat.divInt a b).den : Int) = b.fdiv (Int.gcd a b) := by
  rw [Rat.den_divInt, if_neg (by omega), Int.gcd_comm, Int.fdiv_eq_ediv_of_nonneg _ (Int.natCast_nonneg _), Int.natCast_ediv, Int.natAbs_of_nonneg (by omega)]
theorem num_divN {a b : Int} (hb : b < 0) : (Rat.divInt a b).num = (-a).fdiv (Int.gcd a b) := by
  rw [Rat.num_divInt, Int.sign_eq_neg_one_of_neg hb, Int.gcd_comm, Int.fdiv_eq_ediv_of_nonneg _ (Int.natCast_nonneg _), Int.neg_one_mul]
theorem den_divN {a b : Int} (hb : b < 0) : ((Rat.divInt a b).den : Int) = (-b).fdiv (Int.gcd a b) := by
  rw [Rat.den_divInt, if_neg (by omega), Int.gcd_comm, Int.fdiv_eq_ediv_of_nonneg _ (Int.natCast_nonneg _), Int.natCast_ediv]
  congr 1
  omega
theorem le_iff {x y : Rat} : x.num * (y.den : Int) ≤ y.num * (x.den : Int) ↔ x ≤ y := (Rat.le_iff x y).symm
theorem lt_iff {x y : Rat} : x.num * (y.den : Int) < y.num * (x.den : Int) ↔ x < y := (Rat.lt_iff x y).symm
theorem self (x : Rat) : Rat.divInt x.num x.den = x := Rat.num_divInt_den x
theorem add_is (x y : Rat) : Rat.divInt (x.num * y.den + y.num * x.den) (x.den * y.den) = x + y := by
  rw [← Rat.divInt_add_divInt _ _ (den0 x) (den0 y), self, self]
theorem sub_is (x y : Rat) : Rat.divInt (x.num * y.den - y.num * x.den) (x.den * y.den) = x - y := by
  rw [← Rat.divInt_sub_divInt _ _ (den0 x) (den0 y), self, self]
theorem mul_is (x y : Rat) : Rat.divInt (x.num * y.num) (x.den * y.den) = x * y := by
  rw [← Rat.divInt_mul_divInt, self, self]
theorem div_is (x y : Rat) : Rat.divInt (x.num * y.den) (x.den * y.num) = x / y := by
  have h : y⁻¹ = Rat.divInt y.den y.num := by
    have := Rat.inv_divInt y.num y.den
    rw [self] at this
    exact this
  rw [Rat.div_def, h, ← Rat.divInt_mul_divInt, self]
theorem div_eq (a b : Int) : Rat.divInt a b = (a : Rat) / (b : Rat) := Rat.divInt_eq_div a b
theorem num0 {x : Rat} : x.num = 0 ↔ x = 0 := Rat.num_eq_zero
theorem num_nn {x : Rat} : 0 ≤ x.num ↔ 0 ≤ x := Rat.num_nonneg
theorem num_neg {x : Rat} : x.num < 0 ↔ x < 0 := by
  have := @num_nn x
  have h : x < 0 ↔ ¬ 0 ≤ x := by grind
  rw [h, ← this]; omega
theorem num_pos {x : Rat} : 0 < x.num ↔ 0 < x := by
  have a := @num_nn x
  have b := @num0 x
  have h : 0 < x ↔ 0 ≤ x ∧ ¬ x = 0 := by grind
  rw [h, ← a, ← b]; omega
/-- sizes -/
structure Bd (k : Nat) (q : Rat) : Prop where
  n : q.num.natAbs ≤ k
  d : q.den ≤ k
theorem Bd.mono {m n : Nat} {q : Rat} (h : Bd m q) (k : m ≤ n) : Bd n q := ⟨Nat.le_trans h.n k, Nat.le_trans h.d k⟩
theorem fdiv_abs {a : Int} {g : Nat} : (a.fdiv g).natAbs ≤ a.natAbs := by
  rw [Int.fdiv_eq_ediv_of_nonneg _ (Int.natCast_nonneg _)]
  rcases Nat.eq_zero_or_pos g with rfl | hg
  · simp
  · exact Int.natAbs_ediv_le_natAbs a g
theorem bd_div {a b : Int} {n : Nat} (hb : b ≠ 0) (h1 : a.natAbs ≤ n) (h2 : b.natAbs ≤ n) : Bd n (Rat.divInt a b) := by
  rcases Int.lt_or_gt_of_ne hb with h | h
  · refine ⟨?_, ?_⟩
    · rw [num_divN h]
      exact Nat.le_trans fdiv_abs (by omega)
    · have := fdiv_abs (a := -b) (g := Int.gcd a b)
      rw [← den_divN h] at this
      omega
  · refine ⟨?_, ?_⟩
    · rw [num_div h]
      exact Nat.le_trans fdiv_abs h1
    · have := fdiv_abs (a := b) (g := Int.gcd a b)
      rw [← den_div h] at this
      omega
theorem mul_abs {a b : Int} {m n : Nat} (h : a.natAbs ≤ m) (k : b.natAbs ≤ n) : (a * b).natAbs ≤ m * n := by
  rw [Int.natAbs_mul]
  exact Nat.mul_le_mul h k
theorem Bd.dn {n : Nat} {q : Rat} (h : Bd n q) : (q.den : Int).natAbs ≤ n := by have := h.d; omega
theorem Bd.add {m n : Nat} {x y : Rat} (hx : Bd m x) (hy : Bd n y) : Bd (2 * (m * n)) (x + y) := by
  rw [← add_is]
  have a := mul_abs hx.n hy.dn
  have b := mul_abs hy.n hx.dn
  have c := mul_abs hx.dn hy.dn
  rw [Nat.mul_comm n m] at b
  refine bd_div (Int.mul_ne_zero (den0 x) (den0 y)) ?_ (by omega)
  have := Int.natAbs_add_le (x.num * y.den) (y.num * x.den)
  omega
theorem Bd.sub {m n : Nat} {x y : Rat} (hx : Bd m x) (hy : Bd n y) : Bd (2 * (m * n)) (x - y) := by
  rw [← sub_is]
  have a := mul_abs hx.n hy.dn
  have b := mul_abs hy.n hx.dn
  have c := mul_abs hx.dn hy.dn
  rw [Nat.mul_comm n m] at b
  refine bd_div (Int.mul_ne_zero (den0 x) (den0 y)) ?_ (by omega)
  have := Int.natAbs_sub_le (x.num * y.den) (y.num * x.den)
  omega
theorem Bd.mul {m n : Nat} {x y : Rat} (hx : Bd m x) (hy : Bd n y) : Bd (m * n) (x * y) := by
  rw [← mul_is]
  exact bd_div (Int.mul_ne_zero (den0 x) (den0 y)) (mul_abs hx.n hy.n) (mul_abs hx.dn hy.dn)
theorem Bd.div {m n : Nat} {x y : Rat} (hx : Bd m x) (hy : Bd n y) (h0 : y ≠ 0) : Bd (m * n) (x / y) := by
  rw [← div_is]
  exact bd_div (Int.mul_ne_zero (den0 x) (fun h => h0 (num0.mp h))) (mul_abs hx.n hy.dn) (mul_abs hx.dn hy.n)
theorem Bd.neg {n : Nat} {x : Rat} (h : Bd n x) : Bd n (-x) := ⟨by rw [Rat.neg_num, Int.natAbs_neg]; exact h.n, by rw [Rat.neg_den]; exact h.d⟩
theorem abs_is (x : Rat) : x.abs = if x < 0 then -x else x := by
  unfold Rat.abs
  by_cases h : 0 ≤ x
  · have : ¬ x < 0 := by grind
    rw [if_neg this, if_pos h]
  · have : x < 0 := by grind
    rw [if_pos this, if_neg h]
theorem abs_num (x : Rat) : x.abs.num = if x.num < 0 then -x.num else x.num := by
  rw [abs_is]
  by_cases h : x < 0
  · rw [if_pos h, if_pos (num_neg.mpr h), Rat.neg_num]
  · rw [if_neg h, if_neg (fun q => h (num_neg.mp q))]
theorem abs_den (x : Rat) : x.abs.den = x.den := by
  rw [abs_is]
  split
  · rw [Rat.neg_den]
  · rfl
end Ra
end
section
set_option Elab.async false
set_option linter.all false
set_option maxRecDepth 100000
set_option maxHeartbeats 4000000
namespace Ra
open PySem PySem.Spec PyProof.Rows L2 Mi

/-! ### the mirror's small words, computed -/
theorem mul_sm {i j : Int} {S : Sto} (h1 : i.natAbs ≤ 2 ^ 4000) (h2 : j.natAbs ≤ 2 ^ 4000) : fMul false (.int i) (.int j) S = .ok (.int (i * j)) S := by
  have l : ∀ n : Nat, n ≤ 2 ^ 4000 → n.log2 ≤ 4000 := fun n h => by
    by_cases z : n = 0
    · rw [z]; decide
    · have := (Nat.log2_lt z (k := 4001)).mpr (Nat.lt_of_le_of_lt h (by decide +kernel))
      omega
  show (if i.natAbs.log2 + j.natAbs.log2 < 100000000 then Res.ok (PV.int (i * j)) S else .bad) = _
  rw [if_pos (by have := l _ h1; have := l _ h2; omega)]
theorem div_sm {i j : Int} {S : Sto} (h1 : 0 < j) (h2 : j.natAbs ≤ 2 ^ 4000) : fDiv (.int i) (.int j) S = .ok (.int (i.fdiv j)) S := by
  have z : j.natAbs ≠ 0 := by omega
  have := (Nat.log2_lt z (k := 4001)).mpr (Nat.lt_of_le_of_lt h2 (by decide +kernel))
  show (if j ≠ 0 ∧ j.natAbs.log2 < 9000 then Res.ok (PV.int (i.fdiv j)) S else .bad) = _
  rw [if_pos ⟨by omega, by omega⟩]
theorem mod_sm {i j : Int} {S : Sto} (h1 : 0 < j) : fMod (.int i) (.int j) S = .ok (.int (i.fmod j)) S := by
  show (if j ≠ 0 then Res.ok (PV.int (i.fmod j)) S else .bad) = _
  rw [if_pos (by omega)]
theorem w_eq (neg : Bool) {i j : Int} {S : Sto} : fEq neg (.int i) (.int j) S = .ok (.bl (if neg = true then !(i == j) else i == j)) S := rfl
theorem w_add {i j : Int} {S : Sto} : fAdd false (.int i) (.int j) S = .ok (.int (i + j)) S := rfl
theorem w_sub {i j : Int} {S : Sto} : fSub (.int i) (.int j) S = .ok (.int (i - j)) S := rfl
theorem w_abs {i : Int} {S : Sto} : fAbs [.int i] S = .ok (.int (if i < 0 then -i else i)) S := rfl
theorem w_int {i : Int} {S : Sto} : fInt [.int i] S = .ok (.int i) S := rfl
/-! comprehensions and all() over data of one kind -/
theorem lcP_map {α : Type} {f : PV → EnP → Option EnP} {de : EnP → Sto → Res PV} {ρ : EnP} (enc g : α → PV) (P : α → Prop) (h : ∀ x, P x → ∃ ρ1, f (enc x) ρ = some ρ1 ∧ ∀ S, de ρ1 S = .ok (g x) S) :
    ∀ (xs : List α) (acc : List PV) (S : Sto), (∀ x ∈ xs, P x) → acc.length + xs.length ≤ lim → lcP f dYes de ρ (xs.map enc) acc S = .ok (acc ++ xs.map g) S
  | [], acc, S, _, _ => by simp [lcP]
  | x :: xs, acc, S, hP, hl => by
    obtain ⟨ρ1, e1, e2⟩ := h x (hP x List.mem_cons_self)
    rw [List.length_cons] at hl
    have ih := lcP_map enc g P h xs (acc ++ [g x]) S (fun y hy => hP y (List.mem_cons_of_mem _ hy)) (by rw [List.length_append, List.length_singleton]; omega)
    rw [List.map_cons, lcP]
    simp only [e1, dYes, e2]
    rw [if_pos (by omega), ih]
    simp
theorem dLc_map {α : Type} {di : EnP → Sto → Res (List PV)} {f : PV → EnP → Option EnP} {de : EnP → Sto → Res PV} {ρ : EnP} {vs : List Nat} {S : Sto} {xs : List α} (enc g : α → PV) (P : α → Prop) (hi : di ρ S = .ok (xs.map enc) S) (h : ∀ x, P x → ∃ ρ1, f (enc x) (wipeP ρ vs) = some ρ1 ∧ ∀ S, de ρ1 S = .ok (g x) S)
    (hP : ∀ x ∈ xs, P x) (hl : xs.length ≤ lim) : dLc false di f dYes de vs ρ S = .ok (.nl (xs.map g)) S := by
  unfold dLc
  rw [hi, Res.bind_ok, lcP_map enc g P h xs [] S hP (by simpa using hl), Res.bind_ok]
  unfold mkLst
  rw [if_pos (by simpa using hl)]
  simp
theorem bls_map {α : Type} (p : α → Bool) : ∀ xs : List α, blsOf (xs.map fun x => PV.bl (p x)) = some (xs.map p)
  | [] => rfl
  | x :: xs => by simp [blsOf, bls_map p xs]
theorem all_map {α : Type} (p : α → Bool) (xs : List α) (S : Sto) : fAll [.nl (xs.map fun x => PV.bl (p x))] S = .ok (.bl (xs.all p)) S := by
  show (match blsOf (xs.map fun x => PV.bl (p x)) with | some bs => Res.ok (PV.bl (bs.all id)) S | none => .bad) = _
  rw [bls_map]
  simp [List.all_map]
theorem tuple_nl {xs : List PV} {S : Sto} (h : xs.length ≤ lim) : fTuple [.nl xs] S = .ok (.tup xs) S := by
  show (if xs.length ≤ lim then Res.ok (PV.tup xs) S else .bad) = _
  rw [if_pos h]
theorem len_tup {xs : List PV} {S : Sto} : fLen [.tup xs] S = .ok (.int xs.length) S := rfl
theorem zip_map {α β : Type} (e1 : α → PV) (e2 : β → PV) (xs : List α) (ys : List β) : zipP (xs.map e1) (ys.map e2) = (xs.zip ys).map fun p => PV.tup [e1 p.1, e2 p.2] := by
  unfold zipP
  rw [List.zip_map, List.map_map]
  rfl
theorem const_true {α : Type} (xs : List α) : (xs.map fun _ => PV.bl true) = xs.map fun x => PV.bl ((fun _ => true) x) := rfl
theorem all_true {α : Type} (xs : List α) (S : Sto) : fAll [.nl (xs.map fun _ => PV.bl true)] S = .ok (.bl true) S := by
  have h := all_map (fun _ : α => true) xs S
  rw [h]
  simp

theorem fmod_nat (a b : Nat) : ((a : Int)).fmod (b : Int) = ((a % b : Nat) : Int) := by
  rw [Int.fmod_eq_emod_of_nonneg _ (by omega)]
  exact (Int.natCast_emod a b).symm
theorem isi_tup (xs : List PV) (S : Sto) : fIsi [.tup xs, .ty "tuple"] S = .ok (.bl true) S := rfl
theorem w_neg {i : Int} {S : Sto} : fNeg (.int i) S = .ok (.int (-i)) S := rfl
theorem ix_0 {a b : PV} {S : Sto} : fIx (.tup [a, b]) (.int 0) S = .ok a S := rfl
theorem ix_1 {a b : PV} {S : Sto} : fIx (.tup [a, b]) (.int 1) S = .ok b S := rfl
theorem ix_q0 {q : Rat} {S : Sto} : fIx (eQ q) (.int 0) S = .ok (.int q.num) S := rfl
theorem ix_q1 {q : Rat} {S : Sto} : fIx (eQ q) (.int 1) S = .ok (.int q.den) S := rfl
def big : Int := 10 ^ 300
/-- the program's fractions -/
structure Ok (q : Rat) : Prop where
  n : q.num.natAbs < 10 ^ 300
  d : q.den < 10 ^ 300
theorem Bd.ok {k : Nat} {q : Rat} (h : Bd k q) (l : k < 10 ^ 300) : Ok q := ⟨Nat.lt_of_le_of_lt h.n l, Nat.lt_of_le_of_lt h.d l⟩
theorem Ok.bd {q : Rat} (h : Ok q) : Bd (10 ^ 300) q := ⟨Nat.le_of_lt h.n, Nat.le_of_lt h.d⟩
theorem le4000 {n : Nat} (h : n ≤ 10 ^ 601) : n ≤ 2 ^ 4000 := Nat.le_trans h (by decide +kernel)
end Ra
end
section
set_option Elab.async false
set_option linter.all false
set_option maxRecDepth 100000
set_option maxHeartbeats 1000000
/-! powers -/
namespace Ra
open PySem PySem.Spec PyProof.Rows L2 Mi
def pw (b : Nat) (e : Int) : Rat := if 0 ≤ e then ((b ^ e.natAbs : Nat) : Rat) else Rat.divInt 1 ((b ^ e.natAbs : Nat) : Int)
theorem pw_nn {b : Nat} {e : Int} (h : 0 ≤ e) : (pw b e).num = ((b ^ e.natAbs : Nat) : Int) ∧ (pw b e).den = 1 := by
  unfold pw
  rw [if_pos h]
  exact ⟨Rat.num_natCast _, Rat.den_natCast _⟩
theorem pw_ng {b : Nat} {e : Int} (hb : 0 < b) (h : ¬ 0 ≤ e) : (pw b e).num = 1 ∧ ((pw b e).den : Int) = ((b ^ e.natAbs : Nat) : Int) := by
  unfold pw
  rw [if_neg h]
  have p : (0 : Int) < ((b ^ e.natAbs : Nat) : Int) := by have := Nat.pow_pos (n := e.natAbs) hb; omega
  have g : Int.gcd 1 ((b ^ e.natAbs : Nat) : Int) = 1 := Int.one_gcd
  refine ⟨?_, ?_⟩
  · rw [num_div p, g]; rfl
  · rw [den_div p, g]
    exact Int.fdiv_one _
end Ra
end
section
set_option Elab.async false
set_option linter.all false
set_option maxRecDepth 100000
set_option maxHeartbeats 1000000
namespace Ra
open PySem PySem.Spec PyProof.Rows L2 Mi
theorem pw_pos {b : Nat} (hb : 0 < b) (e : Int) : 0 < pw b e := by
  rw [← num_pos]
  by_cases h : 0 ≤ e
  · rw [(pw_nn h).1]
    have := Nat.pow_pos (n := e.natAbs) hb
    omega
  · rw [(pw_ng hb h).1]; decide
theorem nat_ne {n : Nat} (h : 0 < n) : (n : Rat) ≠ 0 := fun q => by
  have := congrArg Rat.num q
  rw [Rat.num_natCast] at this
  have z : (0 : Rat).num = 0 := rfl
  rw [z] at this
  omega
theorem pw_succ {b : Nat} (hb : 0 < b) (e : Int) : pw b (e + 1) = pw b e * (b : Rat) := by
  unfold pw
  by_cases h : 0 ≤ e
  · rw [if_pos h, if_pos (by omega)]
    have : (e + 1).natAbs = e.natAbs + 1 := by omega
    rw [this, Nat.pow_succ, Rat.natCast_mul]
  · rw [if_neg h]
    have p : b ^ e.natAbs = b ^ (e + 1).natAbs * b := by
      have : e.natAbs = (e + 1).natAbs + 1 := by omega
      rw [this, Nat.pow_succ]
    have b0 : (b : Rat) ≠ 0 := nat_ne hb
    have d0 : ((b ^ (e + 1).natAbs : Nat) : Rat) ≠ 0 := nat_ne (Nat.pow_pos hb)
    by_cases h1 : 0 ≤ e + 1
    · have : e = -1 := by omega
      subst this
      rw [if_pos h1, div_eq, p, Rat.intCast_natCast]
      have q : (-1 + 1 : Int).natAbs = 0 := rfl
      rw [q, Nat.pow_zero, Nat.one_mul]
      have o : ((1 : Int) : Rat) = 1 := rfl
      have o2 : ((1 : Nat) : Rat) = 1 := rfl
      rw [o, o2]
      generalize (b : Rat) = r at b0
      clear d0 p
      grind
    · rw [if_neg h1, div_eq, div_eq, p, Rat.intCast_natCast, Rat.intCast_natCast, Rat.natCast_mul]
      have o : ((1 : Int) : Rat) = 1 := rfl
      rw [o]
      generalize ((b ^ (e + 1).natAbs : Nat) : Rat) = d at d0
      generalize (b : Rat) = r at b0
      clear p
      grind
end Ra
end
section
set_option Elab.async false
set_option linter.all false
set_option maxRecDepth 100000
set_option maxHeartbeats 1000000
namespace Ra
open PySem PySem.Spec PyProof.Rows L2 Mi
theorem nat_le {a b : Nat} : ((a : Nat) : Rat) ≤ (b : Rat) ↔ a ≤ b := Rat.natCast_le_natCast
theorem pw_le1 {b : Nat} (hb : 1 ≤ b) (e : Int) : pw b e ≤ pw b (e + 1) := by
  rw [pw_succ (by omega)]
  have p := pw_pos (b := b) (by omega) e
  have h : (1 : Rat) ≤ (b : Rat) := by
    have := nat_le.mpr hb
    exact this
  have := Rat.mul_le_mul_of_nonneg_left h (Rat.le_of_lt p)
  rw [Rat.mul_one] at this
  exact this
theorem pw_mono {b : Nat} (hb : 1 ≤ b) {e f : Int} (h : e ≤ f) : pw b e ≤ pw b f := by
  obtain ⟨n, rfl⟩ := Int.le.dest h
  clear h
  induction n with
  | zero => simp
  | succ n ih =>
    have := pw_le1 hb (e + n)
    have q : e + ((n + 1 : Nat) : Int) = e + n + 1 := by omega
    rw [q]
    exact Rat.le_trans ih this
end Ra
end
section
set_option Elab.async false
set_option linter.all false
set_option maxRecDepth 100000
set_option maxHeartbeats 1000000
namespace Ra
open PySem PySem.Spec PyProof.Rows L2 Mi
/-- the least e from lo on with |x| < b ^ (k + e) -/
def IsEx (b : Nat) (k lo : Int) (x : Rat) (e : Int) : Prop := lo ≤ e ∧ x.abs < pw b (k + e) ∧ (e = lo ∨ pw b (k + (e - 1)) ≤ x.abs)
theorem IsEx.uniq {b : Nat} {k lo : Int} {x : Rat} {e f : Int} (hb : 1 ≤ b) (h : IsEx b k lo x e) (h' : IsEx b k lo x f) : e = f := by
  obtain ⟨a1, a2, a3⟩ := h
  obtain ⟨b1, b2, b3⟩ := h'
  rcases Int.lt_trichotomy e f with q | q | q
  · rcases b3 with b3 | b3
    · omega
    · have := pw_mono hb (show k + e ≤ k + (f - 1) by omega)
      grind
  · exact q
  · rcases a3 with a3 | a3
    · omega
    · have := pw_mono hb (show k + f ≤ k + (e - 1) by omega)
      grind
end Ra
end
section
set_option Elab.async false
set_option linter.all false
set_option maxRecDepth 100000
set_option maxHeartbeats 1000000
namespace Ra
open PySem PySem.Spec PyProof.Rows L2 Mi
theorem num_is (x : Rat) : (x.num : Rat) = x * (x.den : Rat) := by
  have h := self x
  rw [div_eq, Rat.intCast_natCast] at h
  have d := nat_ne x.den_pos
  generalize (x.num : Rat) = n at h ⊢
  generalize (x.den : Rat) = m at h d ⊢
  rw [← h]
  grind
/-- a pair T over M told against x -/
theorem pair_lt {x p : Rat} {T M : Nat} (hM : 0 < M) (h : (T : Rat) = p * (M : Rat)) : x.num * (M : Int) < (T : Int) * (x.den : Int) ↔ x < p := by
  have e1 : ((x.num * (M : Int) : Int) : Rat) = x * ((M * x.den : Nat) : Rat) := by
    rw [Rat.intCast_mul, num_is, Rat.intCast_natCast, Rat.natCast_mul]
    grind
  have e2 : (((T : Int) * (x.den : Int) : Int) : Rat) = p * ((M * x.den : Nat) : Rat) := by
    rw [Rat.intCast_mul, Rat.intCast_natCast, Rat.intCast_natCast, h, Rat.natCast_mul]
    grind
  have c : (0 : Rat) < ((M * x.den : Nat) : Rat) := by
    have : 0 < M * x.den := Nat.mul_pos hM x.den_pos
    have := (Rat.natCast_lt_natCast (a := 0) (b := M * x.den)).mpr this
    exact this
  rw [← Rat.intCast_lt_intCast, e1, e2]
  exact Rat.mul_lt_mul_right c
end Ra
end
section
set_option Elab.async false
set_option linter.all false
set_option maxRecDepth 100000
set_option maxHeartbeats 1000000
namespace Ra
open PySem PySem.Spec PyProof.Rows L2 Mi
theorem abs_nn (x : Rat) : 0 ≤ x.abs := by rw [abs_is]; split <;> grind
theorem Ok.abs {x : Rat} (h : Ok x) : Ok x.abs := ⟨by rw [abs_num]; have := h.n; split <;> omega, by rw [abs_den]; exact h.d⟩
theorem Ok.lt {x : Rat} (h : Ok x) : x < ((10 ^ 300 : Nat) : Rat) := by
  have e := num_is x
  have d : ((1 : Nat) : Rat) ≤ (x.den : Rat) := nat_le.mpr x.den_pos
  have n : (x.num : Rat) < ((10 ^ 300 : Nat) : Rat) := by
    rw [← Rat.intCast_natCast, Rat.intCast_lt_intCast]
    have := h.n
    omega
  have o : ((1 : Nat) : Rat) = 1 := rfl
  rw [o] at d
  by_cases q : x < ((10 ^ 300 : Nat) : Rat)
  · exact q
  · have q' : ((10 ^ 300 : Nat) : Rat) ≤ x := by grind
    have p : (0 : Rat) ≤ ((10 ^ 300 : Nat) : Rat) := nat_le.mpr (Nat.zero_le _)
    have r : x * 1 ≤ x * (x.den : Rat) := Rat.mul_le_mul_of_nonneg_left d (Rat.le_trans p q')
    rw [e] at n
    grind
theorem pw_big {b : Nat} (hb : 2 ≤ b) {e : Int} (h : 1000 ≤ e) {x : Rat} (hx : Ok x) : x < pw b e := by
  have m := pw_mono (b := b) (by omega) h
  have l : ((10 ^ 300 : Nat) : Rat) ≤ pw b 1000 := by
    unfold pw
    rw [if_pos (by decide)]
    refine nat_le.mpr (Nat.le_trans (m := 2 ^ 1000) (by decide +kernel) (Nat.pow_le_pow_left hb 1000))
  have := hx.lt
  grind
end Ra
end
section
set_option Elab.async false
set_option linter.all false
set_option maxRecDepth 100000
set_option maxHeartbeats 1000000
/-! holds over the rationals: the plain law -/
namespace Ra
theorem abs_is' (x : Rat) : x.abs = if x < 0 then -x else x := by
  unfold Rat.abs
  grind
inductive Wrd where | neg | size | add | sub | mul | div | least | most
deriving DecidableEq
def rmin (x y : Rat) : Rat := if x ≤ y then x else y
def rmax (x y : Rat) : Rat := if x ≤ y then y else x
structure Hd where
  lo : Rat
  hi : Rat
  off : Rat
structure Hd.Is (h : Hd) : Prop where
  le : h.lo ≤ h.hi
  nn : 0 ≤ h.off
def mx (a b : Rat) : Rat := rmax a.abs b.abs
def ls (a b : Rat) : Rat := if a ≤ 0 ∧ 0 ≤ b then 0 else rmin a.abs b.abs
def Wrd.ex : Wrd → Rat → Rat → Rat
  | .neg, x, _ => -x
  | .size, x, _ => x.abs
  | .add, x, y => x + y
  | .sub, x, y => x - y
  | .mul, x, y => x * y
  | .div, x, y => x / y
  | .least, x, y => rmin x y
  | .most, x, y => rmax x y
def min4 (a b c d : Rat) : Rat := rmin (rmin (rmin a b) c) d
def max4 (a b c d : Rat) : Rat := rmax (rmax (rmax a b) c) d
def eLo : Wrd → Hd → Hd → Rat
  | .neg, h, _ => -h.hi
  | .size, h, _ => ls h.lo h.hi
  | .add, h, g => h.lo + g.lo
  | .sub, h, g => h.lo - g.hi
  | .mul, h, g => min4 (h.lo * g.lo) (h.lo * g.hi) (h.hi * g.lo) (h.hi * g.hi)
  | .div, h, g => min4 (h.lo / g.lo) (h.lo / g.hi) (h.hi / g.lo) (h.hi / g.hi)
  | .least, h, g => rmin h.lo g.lo
  | .most, h, g => rmax h.lo g.lo
def eHi : Wrd → Hd → Hd → Rat
  | .neg, h, _ => -h.lo
  | .size, h, _ => mx h.lo h.hi
  | .add, h, g => h.hi + g.hi
  | .sub, h, g => h.hi - g.lo
  | .mul, h, g => max4 (h.lo * g.lo) (h.lo * g.hi) (h.hi * g.lo) (h.hi * g.hi)
  | .div, h, g => max4 (h.lo / g.lo) (h.lo / g.hi) (h.hi / g.lo) (h.hi / g.hi)
  | .least, h, g => rmin h.hi g.hi
  | .most, h, g => rmax h.hi g.hi
def spr : Wrd → Hd → Hd → Rat
  | .mul, h, g => mx h.lo h.hi * g.off + mx g.lo g.hi * h.off + h.off * g.off
  | .div, h, g => (h.off + mx h.lo h.hi * g.off / ls g.lo g.hi) / (ls g.lo g.hi - g.off)
  | _, h, g => h.off + g.off
structure In (h : Hd) (x : Rat) : Prop where
  lo : h.lo ≤ x
  hi : x ≤ h.hi
theorem lin {a b x : Rat} (y : Rat) (h1 : a ≤ x) (h2 : x ≤ b) : (a * y ≤ x * y ∧ x * y ≤ b * y) ∨ (b * y ≤ x * y ∧ x * y ≤ a * y) := by
  by_cases q : 0 ≤ y
  · exact .inl ⟨Rat.mul_le_mul_of_nonneg_right h1 q, Rat.mul_le_mul_of_nonneg_right h2 q⟩
  · right
    have q' : 0 ≤ -y := by grind
    have a1 := Rat.mul_le_mul_of_nonneg_right h1 q'
    have a2 := Rat.mul_le_mul_of_nonneg_right h2 q'
    constructor <;> grind
theorem box {a b c d x y : Rat} (h1 : a ≤ x) (h2 : x ≤ b) (h3 : c ≤ y) (h4 : y ≤ d) : min4 (a * c) (a * d) (b * c) (b * d) ≤ x * y ∧ x * y ≤ max4 (a * c) (a * d) (b * c) (b * d) := by
  have l1 := lin y h1 h2
  have l2 := lin a h3 h4
  have l3 := lin b h3 h4
  rw [Rat.mul_comm c a, Rat.mul_comm y a, Rat.mul_comm d a] at l2
  rw [Rat.mul_comm c b, Rat.mul_comm y b, Rat.mul_comm d b] at l3
  generalize a * c = p1 at *
  generalize a * d = p2 at *
  generalize b * c = p3 at *
  generalize b * d = p4 at *
  generalize a * y = p5 at *
  generalize b * y = p6 at *
  generalize x * y = p7 at *
  simp only [min4, max4, rmin, rmax]
  grind
theorem inv_le {a b : Rat} (h : 0 < a) (k : a ≤ b) : b⁻¹ ≤ a⁻¹ := by
  have hb : 0 < b := by grind
  have e1 : b⁻¹ = a * (a⁻¹ * b⁻¹) := by grind
  have e2 : a⁻¹ = b * (a⁻¹ * b⁻¹) := by grind
  have n : 0 ≤ a⁻¹ * b⁻¹ := Rat.le_of_lt (Rat.mul_pos (Rat.inv_pos.mpr h) (Rat.inv_pos.mpr hb))
  rw [e1, e2]
  have := Rat.mul_le_mul_of_nonneg_right k n
  grind
theorem dbox {a b c d x y : Rat} (h1 : a ≤ x) (h2 : x ≤ b) (h3 : c ≤ y) (h4 : y ≤ d) (n : ¬ (c ≤ 0 ∧ 0 ≤ d)) : min4 (a / c) (a / d) (b / c) (b / d) ≤ x / y ∧ x / y ≤ max4 (a / c) (a / d) (b / c) (b / d) := by
  have i : d⁻¹ ≤ y⁻¹ ∧ y⁻¹ ≤ c⁻¹ := by
    by_cases q : 0 < c
    · exact ⟨inv_le (by grind) h4, inv_le q h3⟩
    · have q2 : 0 < -d := by grind
      have a1 := inv_le q2 (show -d ≤ -y by grind)
      have a2 := inv_le (show 0 < -y by grind) (show -y ≤ -c by grind)
      have e (t : Rat) : (-t)⁻¹ = -(t⁻¹) := by grind
      rw [e, e] at a1 a2
      constructor <;> grind
  have B := box h1 h2 i.1 i.2
  simp only [Rat.div_def]
  generalize a * c⁻¹ = p1 at *
  generalize a * d⁻¹ = p2 at *
  generalize b * c⁻¹ = p3 at *
  generalize b * d⁻¹ = p4 at *
  generalize x * y⁻¹ = p7 at *
  simp only [min4, max4, rmin, rmax] at *
  grind
/-- what is exact lies within -/
theorem ex_in {w : Wrd} {h g : Hd} {x y : Rat} (hx : In h x) (hy : In g y) (n : w = .div → ¬ (g.lo ≤ 0 ∧ 0 ≤ g.hi)) : eLo w h g ≤ w.ex x y ∧ w.ex x y ≤ eHi w h g := by
  obtain ⟨a1, a2⟩ := hx
  obtain ⟨b1, b2⟩ := hy
  cases w with
  | mul => exact box a1 a2 b1 b2
  | div => exact dbox a1 a2 b1 b2 (n rfl)
  | _ => simp only [eLo, eHi, Wrd.ex, ls, mx, rmin, rmax, abs_is'] <;> grind
theorem abs_le {x o : Rat} : x.abs ≤ o ↔ -o ≤ x ∧ x ≤ o := by
  rw [abs_is']
  grind
theorem abs_mul (x y : Rat) : (x * y).abs = x.abs * y.abs := by
  have p := @Rat.mul_nonneg x y
  have p2 := @Rat.mul_nonneg (-x) y
  have p3 := @Rat.mul_nonneg x (-y)
  have p4 := @Rat.mul_nonneg (-x) (-y)
  simp only [abs_is']
  by_cases q : x < 0 <;> by_cases r : y < 0 <;> simp [q, r] <;> grind
theorem abs_nn' (x : Rat) : 0 ≤ x.abs := by rw [abs_is']; grind
theorem mul_mono {a b c d : Rat} (h1 : a ≤ b) (h2 : c ≤ d) (h3 : 0 ≤ a) (h4 : 0 ≤ c) : a * c ≤ b * d :=
  Rat.le_trans (Rat.mul_le_mul_of_nonneg_right h1 h4) (Rat.mul_le_mul_of_nonneg_left h2 (Rat.le_trans h3 h1))
theorem pb {u v o p : Rat} (h : u.abs ≤ o) (k : v.abs ≤ p) : (u * v).abs ≤ o * p := by
  rw [abs_mul]
  exact mul_mono h k (abs_nn' _) (abs_nn' _)
theorem mx_ge {h : Hd} {x : Rat} (k : In h x) : x.abs ≤ mx h.lo h.hi := by
  obtain ⟨k1, k2⟩ := k
  simp only [mx, rmax, abs_is']
  grind
theorem ls_le {h : Hd} {x : Rat} (k : In h x) : ls h.lo h.hi ≤ x.abs := by
  obtain ⟨k1, k2⟩ := k
  simp only [ls, rmin, abs_is']
  grind
theorem div_nn {a b : Rat} (h : 0 ≤ a) (k : 0 < b) : 0 ≤ a / b := by
  rw [Rat.div_def]
  exact Rat.mul_nonneg h (Rat.le_of_lt (Rat.inv_pos.mpr k))
theorem div_mono {a b c d : Rat} (h1 : 0 ≤ a) (h2 : a ≤ b) (h3 : 0 < d) (h4 : d ≤ c) : a / c ≤ b / d := by
  rw [Rat.div_def, Rat.div_def]
  exact mul_mono h2 (inv_le h3 h4) h1 (Rat.le_of_lt (Rat.inv_pos.mpr (by grind)))
theorem abs_div {x y : Rat} (h : y ≠ 0) : (x / y).abs = x.abs / y.abs := by
  have e : (x / y) * y = x := by grind
  have := abs_mul (x / y) y
  rw [e] at this
  have n : y.abs ≠ 0 := by rw [abs_is']; grind
  rw [this]
  grind
theorem abs_add (x y : Rat) : (x + y).abs ≤ x.abs + y.abs := by simp only [abs_is']; grind
/-- the error of a word -/
theorem err {w : Wrd} {h g : Hd} {x y x' y' : Rat} (hx : In h x) (hy : In g y) (ex : (x' - x).abs ≤ h.off) (ey : (y' - y).abs ≤ g.off) (n : w = .div → g.off < ls g.lo g.hi) :
    (w.ex x' y' - w.ex x y).abs ≤ (match w with | .neg | .size => h.off | .least | .most => rmax h.off g.off | _ => spr w h g) := by
  cases w with
  | mul =>
    simp only [Wrd.ex, spr]
    have e : x' * y' - x * y = x * (y' - y) + y * (x' - x) + (x' - x) * (y' - y) := by grind
    have b1 := pb (mx_ge hx) ey
    have b2 := pb (mx_ge hy) ex
    have b3 := pb ex ey
    rw [e]
    have c1 := abs_add (x * (y' - y) + y * (x' - x)) ((x' - x) * (y' - y))
    have c2 := abs_add (x * (y' - y)) (y * (x' - x))
    grind
  | div =>
    simp only [Wrd.ex, spr]
    have L := n rfl
    have ly := ls_le hy
    have o0 : 0 ≤ g.off := Rat.le_trans (abs_nn' _) ey
    have L0 : 0 < ls g.lo g.hi := by grind
    have ya : 0 < y.abs := by grind
    have y0 : y ≠ 0 := by rw [abs_is'] at ya; grind
    have y1 : ls g.lo g.hi - g.off ≤ y'.abs := by
      have : y.abs ≤ y'.abs + (y' - y).abs := by simp only [abs_is']; grind
      grind
    have y2 : y' ≠ 0 := by
      intro q
      rw [q] at y1
      have : (0 : Rat).abs = 0 := rfl
      grind
    have e : x' / y' - x / y = ((x' - x) - (x * (y' - y)) / y) / y' := by grind
    rw [e, abs_div y2]
    refine div_mono (abs_nn' _) ?_ (by grind) y1
    have c1 := abs_add (x' - x) (-((x * (y' - y)) / y))
    have c2 : (-((x * (y' - y)) / y)).abs = ((x * (y' - y)) / y).abs := by simp only [abs_is']; grind
    rw [abs_div y0] at c2
    have c3 : (x * (y' - y)).abs / y.abs ≤ mx h.lo h.hi * g.off / ls g.lo g.hi := div_mono (abs_nn' _) (pb (mx_ge hx) ey) L0 ly
    have c4 : x' - x - (x * (y' - y)) / y = x' - x + (-((x * (y' - y)) / y)) := by grind
    rw [c4]
    grind
  | _ =>
    simp only [Wrd.ex, spr, rmin, rmax]
    rw [abs_le] at *
    try simp only [abs_is']
    grind
end Ra
end
section
set_option Elab.async false
set_option linter.all false
set_option maxRecDepth 100000
set_option maxHeartbeats 1000000
namespace Ra
structure Cov (a b : Hd) : Prop where
  lo : a.lo ≤ b.lo
  hi : b.hi ≤ a.hi
  off : b.off ≤ a.off
theorem mx_mono {a b : Hd} (c : Cov a b) (h : b.lo ≤ b.hi) : mx b.lo b.hi ≤ mx a.lo a.hi := by
  obtain ⟨c1, c2, c3⟩ := c
  simp only [mx, rmax, abs_is']
  grind
theorem ls_mono {a b : Hd} (c : Cov a b) (h : b.lo ≤ b.hi) : ls a.lo a.hi ≤ ls b.lo b.hi := by
  obtain ⟨c1, c2, c3⟩ := c
  simp only [ls, rmin, abs_is']
  grind
theorem mx_nn (a b : Rat) : 0 ≤ mx a b := by simp only [mx, rmax, abs_is']; grind
theorem ls_nn (a b : Rat) : 0 ≤ ls a b := by simp only [ls, rmin, abs_is']; grind
theorem ls_0 {a b : Rat} (h : a ≤ 0 ∧ 0 ≤ b) : ls a b = 0 := if_pos h
theorem le_min4 {t a b c d : Rat} (h1 : t ≤ a) (h2 : t ≤ b) (h3 : t ≤ c) (h4 : t ≤ d) : t ≤ min4 a b c d := by simp only [min4, rmin]; grind
theorem max4_le {t a b c d : Rat} (h1 : a ≤ t) (h2 : b ≤ t) (h3 : c ≤ t) (h4 : d ≤ t) : max4 a b c d ≤ t := by simp only [max4, rmax]; grind
theorem ends_mono {w : Wrd} {h g h' g' : Hd} (c : Cov h' h) (k : Cov g' g) (ih : h.lo ≤ h.hi) (ig : g.lo ≤ g.hi) (n : w = .div → ¬ (g'.lo ≤ 0 ∧ 0 ≤ g'.hi)) :
    eLo w h' g' ≤ eLo w h g ∧ eHi w h g ≤ eHi w h' g' := by
  have i1 : In h' h.lo := ⟨c.lo, by have := c.hi; grind⟩
  have i2 : In h' h.hi := ⟨by have := c.lo; grind, c.hi⟩
  have j1 : In g' g.lo := ⟨k.lo, by have := k.hi; grind⟩
  have j2 : In g' g.hi := ⟨by have := k.lo; grind, k.hi⟩
  have q1 := ex_in (w := w) i1 j1 n
  have q2 := ex_in (w := w) i1 j2 n
  have q3 := ex_in (w := w) i2 j1 n
  have q4 := ex_in (w := w) i2 j2 n
  cases w with
  | mul => exact ⟨le_min4 q1.1 q2.1 q3.1 q4.1, max4_le q1.2 q2.2 q3.2 q4.2⟩
  | div => exact ⟨le_min4 q1.1 q2.1 q3.1 q4.1, max4_le q1.2 q2.2 q3.2 q4.2⟩
  | size => exact ⟨ls_mono c ih, mx_mono c ih⟩
  | neg | add | sub =>
    obtain ⟨c1, c2, c3⟩ := c
    obtain ⟨k1, k2, k3⟩ := k
    simp only [eLo, eHi]
    grind
  | least | most =>
    obtain ⟨c1, c2, c3⟩ := c
    obtain ⟨k1, k2, k3⟩ := k
    simp only [eLo, eHi, rmin, rmax]
    grind
theorem spr_mono {w : Wrd} {h g h' g' : Hd} (c : Cov h' h) (k : Cov g' g) (ih : h.Is) (ig : g.Is) (n : w = .div → g'.off < ls g'.lo g'.hi) : spr w h g ≤ spr w h' g' := by
  have m1 := mx_mono c ih.le
  have m2 := mx_mono k ig.le
  have l2 := ls_mono k ig.le
  have n1 := mx_nn h.lo h.hi
  have n2 := mx_nn g.lo g.hi
  have o1 := ih.nn
  have o2 := ig.nn
  have c3 := c.off
  have k3 := k.off
  cases w with
  | mul =>
    simp only [spr]
    have a1 := mul_mono m1 k3 n1 o2
    have a2 := mul_mono m2 c3 n2 o1
    have a3 := mul_mono c3 k3 o1 o2
    grind
  | div =>
    have L := n rfl
    simp only [spr]
    have a1 := mul_mono m1 k3 n1 o2
    have L1 : 0 < ls g'.lo g'.hi := by grind
    have a2 := div_mono (Rat.mul_nonneg n1 o2) a1 L1 l2
    have L2 : 0 < ls g.lo g.hi := by grind
    have a3 := div_nn (Rat.mul_nonneg n1 o2) L2
    refine div_mono (by grind) (by grind) (by grind) (by grind)
  | _ => simp only [spr]; grind
theorem spr_nn {w : Wrd} {h g : Hd} (ih : h.Is) (ig : g.Is) (n : w = .div → g.off < ls g.lo g.hi) : 0 ≤ spr w h g := by
  have n1 := mx_nn h.lo h.hi
  have n2 := mx_nn g.lo g.hi
  have o1 := ih.nn
  have o2 := ig.nn
  cases w with
  | mul =>
    simp only [spr]
    have a1 := Rat.mul_nonneg n1 o2
    have a2 := Rat.mul_nonneg n2 o1
    have a3 := Rat.mul_nonneg o1 o2
    grind
  | div =>
    have L := n rfl
    simp only [spr]
    have L2 : 0 < ls g.lo g.hi := by grind
    have a3 := div_nn (Rat.mul_nonneg n1 o2) L2
    exact div_nn (by grind) (by grind)
  | _ => simp only [spr]; grind
theorem ends_le {w : Wrd} {h g : Hd} (ih : h.Is) (ig : g.Is) (n : w = .div → g.off < ls g.lo g.hi) : eLo w h g ≤ eHi w h g := by
  have n' : w = .div → ¬ (g.lo ≤ 0 ∧ 0 ≤ g.hi) := fun q z => by
    have := n q
    rw [ls_0 z] at this
    have := ig.nn
    grind
  have := ex_in (w := w) (h := h) (g := g) (x := h.lo) (y := g.lo) ⟨by grind, ih.le⟩ ⟨by grind, ig.le⟩ n'
  exact Rat.le_trans this.1 this.2
theorem mx_sub {a b a' b' : Rat} (h1 : a' ≤ a) (h2 : b ≤ b') (h : a ≤ b) : mx a b ≤ mx a' b' := by
  simp only [mx, rmax, abs_is']
  grind
end Ra
end
section
set_option Elab.async false
set_option linter.all false
set_option maxRecDepth 100000
set_option maxHeartbeats 1000000
/-! numbers of a format, rounding, holds: the plain law -/
namespace Ra
open PySem PySem.Spec PyProof.Rows L2 Mi
structure Fm where
  b : Nat
  k : Int
  lo : Int
  hi : Int
def digs (b : Nat) : Int := if b < 3 then 4 else if b < 5 then 7 else if b < 11 then 10 else 13
def eF (f : Fm) : PV := .tup [.int f.b, .int f.k, .int f.lo, .int f.hi]
/-- small enough for all that follows -/
structure FmOk (f : Fm) : Prop where
  b0 : 2 ≤ f.b
  b1 : f.b ≤ 16
  k0 : 1 ≤ f.k
  k1 : f.k ≤ 60
  l0 : -400 ≤ f.lo
  l1 : f.lo ≤ 400
  h0 : -400 ≤ f.hi
  h1 : f.hi ≤ 400
  lh : f.lo ≤ f.hi
  sh : f.b ^ (f.k.natAbs + max f.lo.natAbs f.hi.natAbs) ≤ 10 ^ 140
  sd : (f.k + (max f.lo.natAbs f.hi.natAbs : Nat)) * digs f.b ≤ 1400
theorem pw_add {b : Nat} (hb : 0 < b) (e : Int) (n : Nat) : pw b (e + n) = pw b e * ((b ^ n : Nat) : Rat) := by
  induction n with
  | zero =>
    have o : ((1 : Nat) : Rat) = 1 := rfl
    rw [Nat.pow_zero, o, Int.natCast_zero, Int.add_zero, Rat.mul_one]
  | succ n ih =>
    have : e + ((n + 1 : Nat) : Int) = (e + n) + 1 := by omega
    rw [this, pw_succ hb, ih, Nat.pow_succ, Rat.natCast_mul, Rat.mul_assoc]
theorem pw_sub {b : Nat} (hb : 0 < b) {e e' : Int} (h : e' ≤ e) : pw b e = pw b e' * ((b ^ (e - e').toNat : Nat) : Rat) := by
  rw [← pw_add hb]
  congr 1
  omega
theorem ex_exists {b : Nat} {k lo : Int} {x : Rat} : ∀ (n : Nat) (e : Int), lo ≤ e → (e = lo ∨ pw b (k + (e - 1)) ≤ x.abs) → (∃ E, x.abs < pw b (k + E) ∧ e ≤ E ∧ (E - e).toNat < n) → ∃ e', IsEx b k lo x e' := by
  intro n
  induction n with
  | zero => intro e _ _ ⟨E, _, _, h⟩; omega
  | succ n ih =>
    intro e h1 h2 ⟨E, h3, h4, h5⟩
    by_cases q : x.abs < pw b (k + e)
    · exact ⟨e, h1, q, h2⟩
    · have ne : e ≠ E := fun z => q (z ▸ h3)
      refine ih (e + 1) (by omega) (.inr ?_) ⟨E, h3, by omega, by omega⟩
      rw [Int.add_sub_cancel]
      grind
open Classical in
noncomputable def exO (f : Fm) (x : Rat) : Int := if h : ∃ e, IsEx f.b f.k f.lo x e then h.choose else 0
theorem exO_of {f : Fm} {x : Rat} {E : Int} (h : f.lo ≤ E) (l : x.abs < pw f.b (f.k + E)) : IsEx f.b f.k f.lo x (exO f x) := by
  have : ∃ e, IsEx f.b f.k f.lo x e := ex_exists ((E - f.lo).toNat + 1) f.lo (by omega) (.inl rfl) ⟨E, l, h, by omega⟩
  unfold exO
  rw [dif_pos this]
  exact this.choose_spec
theorem exO_is {f : Fm} {x : Rat} (hf : FmOk f) (hx : Ok x) : IsEx f.b f.k f.lo x (exO f x) :=
  exO_of (E := 1000 - f.k) (by have := hf.l1; have := hf.k1; omega) (pw_big hf.b0 (by omega) hx.abs)
theorem exO_eq {f : Fm} {x : Rat} {e : Int} (hf : FmOk f) (h : IsEx f.b f.k f.lo x e) : exO f x = e :=
  IsEx.uniq (by have := hf.b0; omega) (exO_of h.1 h.2.1) h
theorem IsEx.le {b : Nat} {k lo : Int} {x : Rat} {e E : Int} (hb : 1 ≤ b) (h : IsEx b k lo x e) (hE : lo ≤ E) (l : x.abs < pw b (k + E)) : e ≤ E := by
  obtain ⟨a1, a2, a3⟩ := h
  rcases a3 with a3 | a3
  · omega
  · by_cases q : e ≤ E
    · exact q
    · have := pw_mono hb (show k + E ≤ k + (e - 1) by omega)
      grind
noncomputable def gapR (f : Fm) (x : Rat) : Rat := pw f.b (exO f x)
def mostR (f : Fm) : Rat := ((f.b ^ f.k.toNat - 1 : Nat) : Rat) * pw f.b f.hi
theorem gap_pos {f : Fm} (hf : FmOk f) (x : Rat) : 0 < gapR f x := pw_pos (by have := hf.b0; omega) _
theorem gap_mono {f : Fm} {x y : Rat} (hf : FmOk f) (hy : Ok y) (l : x.abs ≤ y.abs) : gapR f x ≤ gapR f y := by
  have hb : 1 ≤ f.b := by have := hf.b0; omega
  have h := exO_is hf hy
  have h2 : x.abs < pw f.b (f.k + exO f y) := by have := h.2.1; grind
  exact pw_mono hb (IsEx.le hb (exO_of h.1 h2) h.1 h2)
theorem most_nn (f : Fm) (hf : FmOk f) : 0 ≤ mostR f :=
  Rat.mul_nonneg (nat_le.mpr (Nat.zero_le _)) (Rat.le_of_lt (pw_pos (by have := hf.b0; omega) _))
theorem most_lt {f : Fm} (hf : FmOk f) : mostR f < pw f.b (f.k + f.hi) := by
  have hb : 0 < f.b := by have := hf.b0; omega
  have e : f.k + f.hi = f.hi + (f.k.toNat : Int) := by have := hf.k0; omega
  rw [e, pw_add hb, mostR, Rat.mul_comm]
  have p := pw_pos hb f.hi
  refine Rat.mul_lt_mul_of_pos_left ?_ p
  rw [Rat.natCast_lt_natCast]
  have := Nat.pow_pos (n := f.k.toNat) hb
  omega
inductive Wy | near | down | up | zero
deriving DecidableEq
def nearI (q : Rat) : Int := if 2 * (q - (q.floor : Rat)) = 1 then (if q.floor % 2 = 0 then q.floor else q.floor + 1) else (if 2 * (q - (q.floor : Rat)) < 1 then q.floor else q.floor + 1)
def rnd : Wy → Rat → Int
  | .near, q => nearI q
  | .down, q => q.floor
  | .up, q => -((-q).floor)
  | .zero, q => if 0 ≤ q then q.floor else -((-q).floor)
theorem cast_add1 (n : Int) : ((n + 1 : Int) : Rat) = (n : Rat) + 1 := by
  rw [Rat.intCast_add]
  rfl
theorem rnd_near (q : Rat) : ((rnd .near q : Int) - q : Rat).abs ≤ 1 / 2 := by
  have h1 := Rat.floor_le q
  have h2 := Rat.lt_floor_add_one q
  rw [cast_add1] at h2
  rw [abs_le]
  simp only [rnd, nearI]
  have c := cast_add1 q.floor
  split <;> split <;> (try rw [c]) <;> constructor <;> grind
theorem rnd_off (w : Wy) (q : Rat) : ((rnd w q : Int) - q : Rat).abs ≤ 1 := by
  have h1 := Rat.floor_le q
  have h2 := Rat.lt_floor_add_one q
  have h3 := Rat.floor_le (-q)
  have h4 := Rat.lt_floor_add_one (-q)
  rw [cast_add1] at h2 h4
  have n := Rat.intCast_neg (-q).floor
  cases w with
  | near => have := rnd_near q; grind
  | down => rw [abs_le]; simp only [rnd]; constructor <;> grind
  | up => rw [abs_le]; simp only [rnd]; rw [n]; constructor <;> grind
  | zero =>
    rw [abs_le]; simp only [rnd]
    split
    · constructor <;> grind
    · rw [n]; constructor <;> grind
theorem rnd_le {w : Wy} {q : Rat} {N : Int} (h : q ≤ (N : Rat)) : rnd w q ≤ N := by
  have f1 : q.floor ≤ N := by
    have := Rat.floor_monotone h
    rwa [Rat.floor_intCast] at this
  have f2 : -N ≤ (-q).floor := by rw [Rat.le_floor_iff, Rat.intCast_neg]; grind
  have f3 : q.floor = N → q = N := fun e => by
    have := Rat.floor_le q
    rw [e] at this
    grind
  have z : 2 * ((N : Rat) - N) = 0 := by grind
  cases w with
  | near =>
    simp only [rnd, nearI]
    by_cases e : q.floor = N
    · rw [e, f3 e, z]
      rw [if_neg (by decide), if_pos (by decide)]
      omega
    · split <;> split <;> omega
  | down => exact f1
  | up => simp only [rnd]; omega
  | zero => simp only [rnd]; split <;> omega
theorem ge_rnd {w : Wy} {q : Rat} {N : Int} (h : (N : Rat) ≤ q) : N ≤ rnd w q := by
  have f1 : N ≤ q.floor := Rat.le_floor_iff.mpr h
  have f2 : (-q).floor ≤ -N := by
    have := Rat.floor_monotone (show -q ≤ ((-N : Int) : Rat) by rw [Rat.intCast_neg]; grind)
    rwa [Rat.floor_intCast] at this
  cases w with
  | near => simp only [rnd, nearI]; split <;> split <;> omega
  | down => exact f1
  | up => simp only [rnd]; omega
  | zero => simp only [rnd]; split <;> omega
theorem rnd_int (w : Wy) (n : Int) : rnd w (n : Rat) = n := Int.le_antisymm (rnd_le Rat.le_refl) (ge_rnd Rat.le_refl)
structure IsNum (f : Fm) (r : Rat) : Prop where
  le : r.abs ≤ mostR f
  is : ∃ m : Int, r = (m : Rat) * gapR f r
open Classical in
noncomputable def roundR (f : Fm) (w : Wy) (z : Rat) : Option Rat :=
  if ((rnd w (z / gapR f z) : Int) * gapR f z : Rat).abs ≤ mostR f then some ((rnd w (z / gapR f z) : Int) * gapR f z) else none
theorem num_of {f : Fm} {r : Rat} {m E : Int} (hf : FmOk f) (h : r = (m : Rat) * pw f.b E) (hE : f.lo ≤ E) (l : r.abs < pw f.b (f.k + E)) : ∃ m : Int, r = (m : Rat) * gapR f r := by
  have hb : 0 < f.b := by have := hf.b0; omega
  have hi := exO_of hE l
  have le := IsEx.le hb hi hE l
  refine ⟨m * ((f.b ^ (E - exO f r).toNat : Nat) : Int), ?_⟩
  unfold gapR
  rw [Rat.intCast_mul, Rat.intCast_natCast, Rat.mul_assoc, Rat.mul_comm (((f.b ^ (E - exO f r).toNat : Nat) : Rat)), ← pw_sub hb le]
  exact h
end Ra
end
section
set_option Elab.async false
set_option linter.all false
set_option maxRecDepth 100000
set_option maxHeartbeats 1000000
namespace Ra
open PySem PySem.Spec PyProof.Rows L2 Mi
theorem abs_neg (x : Rat) : (-x).abs = x.abs := by simp only [abs_is']; grind
theorem int_le {a b : Int} : (a : Rat) ≤ (b : Rat) ↔ a ≤ b := Rat.intCast_le_intCast
theorem abs_int_mul {m : Int} {g : Rat} {N : Nat} (hg : 0 < g) (h1 : -(N : Int) ≤ m) (h2 : m ≤ N) : ((m : Rat) * g).abs ≤ (N : Rat) * g := by
  rw [abs_le]
  have a1 := Rat.mul_le_mul_of_nonneg_right (int_le.mpr h1) (Rat.le_of_lt hg)
  have a2 := Rat.mul_le_mul_of_nonneg_right (int_le.mpr h2) (Rat.le_of_lt hg)
  rw [Rat.intCast_neg, Rat.intCast_natCast] at a1
  rw [Rat.intCast_natCast] at a2
  constructor
  · grind
  · exact a2
/-- whole numbers of gaps that a bound leaves -/
theorem rnd_abs {w : Wy} {z g : Rat} {N : Nat} (hg : 0 < g) (h : z.abs ≤ (N : Rat) * g) : -(N : Int) ≤ rnd w (z / g) ∧ rnd w (z / g) ≤ (N : Int) := by
  rw [abs_le] at h
  have g0 : g ≠ 0 := by grind
  have i := Rat.le_of_lt (Rat.inv_pos.mpr hg)
  have e : z / g = z * g⁻¹ := Rat.div_def _ _
  have e2 : ((N : Rat) * g) * g⁻¹ = (N : Rat) := by grind
  constructor
  · refine ge_rnd ?_
    rw [Rat.intCast_neg, Rat.intCast_natCast, e]
    have := Rat.mul_le_mul_of_nonneg_right h.1 i
    grind
  · refine rnd_le ?_
    rw [Rat.intCast_natCast, e]
    have := Rat.mul_le_mul_of_nonneg_right h.2 i
    grind
theorem most_gap {f : Fm} {E : Int} (hf : FmOk f) (h : E ≤ f.hi) : mostR f = (((f.b ^ f.k.toNat - 1) * f.b ^ (f.hi - E).toNat : Nat) : Rat) * pw f.b E := by
  have hb : 0 < f.b := by have := hf.b0; omega
  rw [mostR, pw_sub hb h, Rat.natCast_mul]
  grind
theorem pw_k {f : Fm} (hf : FmOk f) (E : Int) : pw f.b (f.k + E) = ((f.b ^ f.k.toNat : Nat) : Rat) * pw f.b E := by
  have hb : 0 < f.b := by have := hf.b0; omega
  have e : f.k + E = E + (f.k.toNat : Int) := by have := hf.k0; omega
  rw [e, pw_add hb, Rat.mul_comm]
theorem ex_hi {f : Fm} {z : Rat} {e : Int} (hf : FmOk f) (h : IsEx f.b f.k f.lo z e) (l : z.abs ≤ mostR f) : e ≤ f.hi := by
  have hb : 0 < f.b := by have := hf.b0; omega
  exact IsEx.le hb h hf.lh (by have := most_lt hf; grind)
/-- the number of gaps, as a number of the format -/
theorem gaps_num {f : Fm} {r : Rat} {m E : Int} (hf : FmOk f) (h : r = (m : Rat) * pw f.b E) (hE : f.lo ≤ E) (b1 : -((f.b ^ f.k.toNat : Nat) : Int) ≤ m) (b2 : m ≤ ((f.b ^ f.k.toNat : Nat) : Int)) : ∃ m : Int, r = (m : Rat) * gapR f r := by
  have hb : 0 < f.b := by have := hf.b0; omega
  have p := pw_pos hb E
  by_cases q : -((f.b ^ f.k.toNat : Nat) : Int) < m ∧ m < ((f.b ^ f.k.toNat : Nat) : Int)
  · refine num_of hf h hE ?_
    have c := abs_int_mul (m := m) (N := f.b ^ f.k.toNat - 1) p (by omega) (by omega)
    rw [← h] at c
    rw [pw_k hf]
    have c2 : ((f.b ^ f.k.toNat - 1 : Nat) : Rat) * pw f.b E < ((f.b ^ f.k.toNat : Nat) : Rat) * pw f.b E := by
      rw [Rat.mul_comm, Rat.mul_comm (((f.b ^ f.k.toNat : Nat) : Rat))]
      refine Rat.mul_lt_mul_of_pos_left ?_ p
      rw [Rat.natCast_lt_natCast]
      have := Nat.pow_pos (n := f.k.toNat) hb
      omega
    grind
  · have k1 : f.k.toNat = (f.k.toNat - 1) + 1 := by have := hf.k0; omega
    have eP : ((f.b ^ f.k.toNat : Nat) : Rat) * pw f.b E = ((f.b ^ (f.k.toNat - 1) : Nat) : Rat) * pw f.b (E + 1) := by
      conv => lhs; rw [k1]
      rw [Nat.pow_succ, Rat.natCast_mul, pw_succ hb]
      grind
    have p1 := pw_pos hb (E + 1)
    have lt : ((f.b ^ (f.k.toNat - 1) : Nat) : Rat) * pw f.b (E + 1) < pw f.b (f.k + (E + 1)) := by
      rw [pw_k hf, Rat.mul_comm, Rat.mul_comm (((f.b ^ f.k.toNat : Nat) : Rat))]
      refine Rat.mul_lt_mul_of_pos_left ?_ p1
      rw [Rat.natCast_lt_natCast]
      exact Nat.pow_lt_pow_right (by have := hf.b0; omega) (by omega)
    rcases (show m = ((f.b ^ f.k.toNat : Nat) : Int) ∨ m = -((f.b ^ f.k.toNat : Nat) : Int) by omega) with e | e
    · have h' : r = (((f.b ^ (f.k.toNat - 1) : Nat) : Int) : Rat) * pw f.b (E + 1) := by
        rw [h, e, Rat.intCast_natCast, Rat.intCast_natCast, eP]
      refine num_of hf h' (by omega) ?_
      have c := abs_int_mul (m := ((f.b ^ (f.k.toNat - 1) : Nat) : Int)) (N := f.b ^ (f.k.toNat - 1)) p1 (by omega) (by omega)
      rw [← h'] at c
      grind
    · have h' : r = ((-((f.b ^ (f.k.toNat - 1) : Nat) : Int) : Int) : Rat) * pw f.b (E + 1) := by
        rw [h, e, Rat.intCast_neg, Rat.intCast_neg, Rat.intCast_natCast, Rat.intCast_natCast, Rat.neg_mul, Rat.neg_mul, eP]
      refine num_of hf h' (by omega) ?_
      have c := abs_int_mul (m := -((f.b ^ (f.k.toNat - 1) : Nat) : Int)) (N := f.b ^ (f.k.toNat - 1)) p1 (by omega) (by omega)
      rw [← h'] at c
      grind
theorem round_is {f : Fm} {w : Wy} {z : Rat} (hf : FmOk f) (hz : Ok z) : ∃ m : Int, (rnd w (z / gapR f z) : Int) * gapR f z = (m : Rat) * gapR f ((rnd w (z / gapR f z) : Int) * gapR f z) := by
  have h := exO_is hf hz
  have hb : 0 < f.b := by have := hf.b0; omega
  have l := h.2.1
  rw [pw_k hf] at l
  have b := rnd_abs (w := w) (gap_pos hf z) (Rat.le_of_lt l)
  exact gaps_num hf rfl h.1 b.1 b.2
theorem round_num {f : Fm} {w : Wy} {z r : Rat} (hf : FmOk f) (hz : Ok z) (h : roundR f w z = some r) : IsNum f r := by
  unfold roundR at h
  split at h
  · injection h with h
    subst h
    exact ⟨by assumption, round_is hf hz⟩
  · cases h
theorem div_off {f : Fm} {z : Rat} (hf : FmOk f) (n : Int) : ((n : Rat) * gapR f z - z) = ((n : Rat) - z / gapR f z) * gapR f z := by
  have := gap_pos hf z
  grind
noncomputable def offR (f : Fm) (w : Wy) (x : Rat) : Rat := if w = .near then gapR f x * (1 / 2) else gapR f x
theorem round_fact {f : Fm} {w : Wy} {z : Rat} (hf : FmOk f) (hz : Ok z) (l : z.abs ≤ mostR f) : ∃ r, roundR f w z = some r ∧ IsNum f r ∧ (r - z).abs ≤ offR f w z := by
  have h := exO_is hf hz
  have g0 := gap_pos hf z
  have eh := ex_hi hf h l
  have mg := most_gap hf eh
  have c : ((rnd w (z / gapR f z) : Int) * gapR f z : Rat).abs ≤ mostR f := by
    have l' := l
    rw [mg] at l'
    have b := rnd_abs (w := w) g0 l'
    have := abs_int_mul g0 b.1 b.2
    rw [mg]
    exact this
  have e : roundR f w z = some ((rnd w (z / gapR f z) : Int) * gapR f z) := if_pos c
  refine ⟨_, e, round_num hf hz e, ?_⟩
  rw [div_off hf, abs_mul]
  have ga : (gapR f z).abs = gapR f z := by rw [abs_is']; grind
  rw [ga]
  unfold offR
  split
  · rename_i q
    subst q
    have := Rat.mul_le_mul_of_nonneg_right (rnd_near (z / gapR f z)) (Rat.le_of_lt g0)
    grind
  · have := Rat.mul_le_mul_of_nonneg_right (rnd_off w (z / gapR f z)) (Rat.le_of_lt g0)
    grind
theorem off_mono {f : Fm} {w : Wy} {x y : Rat} (hf : FmOk f) (hy : Ok y) (l : x.abs ≤ y.abs) : offR f w x ≤ offR f w y := by
  have := gap_mono hf hy l
  unfold offR
  split <;> grind
theorem off_nn {f : Fm} {w : Wy} {x : Rat} (hf : FmOk f) : 0 ≤ offR f w x := by
  have := gap_pos hf x
  unfold offR
  split <;> grind
theorem num_self {f : Fm} {w : Wy} {x : Rat} (hf : FmOk f) (h : IsNum f x) : roundR f w x = some x := by
  obtain ⟨l, m, e⟩ := h
  have g0 := gap_pos hf x
  have q : x / gapR f x = (m : Rat) := by
    have n : gapR f x ≠ 0 := by grind
    have e1 : x = (m : Rat) * gapR f x := e
    generalize gapR f x = g at e1 n
    rw [e1]
    grind
  unfold roundR
  rw [q, rnd_int, ← e, if_pos l]
theorem gap_abs {f : Fm} {x y : Rat} (h : x.abs = y.abs) : gapR f x = gapR f y := by
  have : IsEx f.b f.k f.lo x = IsEx f.b f.k f.lo y := by funext e; unfold IsEx; rw [h]
  unfold gapR exO
  rw [this]
theorem IsNum.neg {f : Fm} {x : Rat} (h : IsNum f x) : IsNum f (-x) := by
  obtain ⟨l, m, e⟩ := h
  refine ⟨by rw [abs_neg]; exact l, -m, ?_⟩
  rw [gap_abs (abs_neg x), Rat.intCast_neg, Rat.neg_mul, ← e]
theorem IsNum.abs {f : Fm} {x : Rat} (h : IsNum f x) : IsNum f x.abs := by
  rw [abs_is']
  split
  · exact h.neg
  · exact h
end Ra
end
section
set_option Elab.async false
set_option linter.all false
set_option maxRecDepth 100000
set_option maxHeartbeats 1000000
namespace Ra
open PySem PySem.Spec PyProof.Rows L2 Mi
def mstR (w : Wrd) (h g : Hd) : Rat := mx (eLo w h g) (eHi w h g) + spr w h g
open Classical in
noncomputable def holdR (f : Fm) (y : Wy) (w : Wrd) (h g : Hd) : Option Hd :=
  if w = .div ∧ ls g.lo g.hi ≤ g.off then none else
  match w with
  | .neg | .size => some ⟨eLo w h g, eHi w h g, h.off⟩
  | .least | .most => some ⟨eLo w h g, eHi w h g, rmax h.off g.off⟩
  | _ => if mstR w h g ≤ mostR f then some ⟨eLo w h g, eHi w h g, spr w h g + offR f y (mstR w h g)⟩ else none
theorem hold_div {f : Fm} {y : Wy} {w : Wrd} {h g H : Hd} (e : holdR f y w h g = some H) : w = .div → g.off < ls g.lo g.hi := fun q => by
  unfold holdR at e
  split at e
  · cases e
  · rename_i n
    have : ¬ ls g.lo g.hi ≤ g.off := fun z => n ⟨q, z⟩
    grind
theorem div_n {w : Wrd} {g : Hd} (ig : g.Is) (n : w = .div → g.off < ls g.lo g.hi) : w = .div → ¬ (g.lo ≤ 0 ∧ 0 ≤ g.hi) := fun q z => by
  have := n q
  rw [ls_0 z] at this
  have := ig.nn
  grind
def Wrd.big : Wrd → Bool
  | .add | .sub | .mul | .div => true
  | _ => false
open Classical in
theorem holdR_big {f : Fm} {y : Wy} {w : Wrd} {h g : Hd} (hb : w.big = true) (n : ¬(w = .div ∧ ls g.lo g.hi ≤ g.off)) : holdR f y w h g = if mstR w h g ≤ mostR f then some ⟨eLo w h g, eHi w h g, spr w h g + offR f y (mstR w h g)⟩ else none := by
  unfold holdR
  rw [if_neg n]
  cases w <;> first | (cases hb; done) | skip
  all_goals dsimp only
  all_goals split <;> rfl
/-- what a hold by a word is -/
theorem hold_is {f : Fm} {y : Wy} {w : Wrd} {h g H : Hd} (e : holdR f y w h g = some H) :
    H.lo = eLo w h g ∧ H.hi = eHi w h g ∧ H.off = (match w with | .neg | .size => h.off | .least | .most => rmax h.off g.off | _ => spr w h g + offR f y (mstR w h g)) ∧ (w.big = true → mstR w h g ≤ mostR f) := by
  unfold holdR at e
  split at e
  · cases e
  · cases w with
    | neg | size | least | most => cases e; exact ⟨rfl, rfl, rfl, fun z => by cases z⟩
    | add | sub | mul | div =>
      dsimp only at e
      split at e
      · cases e; exact ⟨rfl, rfl, rfl, fun _ => by assumption⟩
      · cases e
theorem hold_ok {f : Fm} {y : Wy} {w : Wrd} {h g H : Hd} (hf : FmOk f) (e : holdR f y w h g = some H) (ih : h.Is) (ig : g.Is) : H.Is := by
  have n := hold_div e
  have el := ends_le ih ig n
  obtain ⟨e1, e2, e3, _⟩ := hold_is e
  refine ⟨by rw [e1, e2]; exact el, ?_⟩
  rw [e3]
  have a := ih.nn
  have b := ig.nn
  have s := spr_nn ih ig n
  have o := off_nn (w := y) (x := mstR w h g) hf
  cases w <;> simp only [rmax] <;> grind
theorem big_fact {f : Fm} {y : Wy} {w : Wrd} {h g H : Hd} {u v o : Rat} (hf : FmOk f) (e1 : H.lo = eLo w h g) (e2 : H.hi = eHi w h g) (e3 : o = spr w h g + offR f y (mstR w h g)) (m : mstR w h g ≤ mostR f) (s : 0 ≤ spr w h g)
    (inn : eLo w h g ≤ u ∧ u ≤ eHi w h g) (er : (v - u).abs ≤ spr w h g) (ok : Ok v) (okm : Ok (mstR w h g)) : ∃ r, roundR f y v = some r ∧ IsNum f r ∧ (r - u).abs ≤ o := by
  have q := mx_ge (h := H) ⟨by rw [e1]; exact inn.1, by rw [e2]; exact inn.2⟩
  rw [e1, e2] at q
  have l : v.abs ≤ mstR w h g := by
    unfold mstR
    have := abs_add (v - u) u
    have e : v - u + u = v := by grind
    rw [e] at this
    grind
  obtain ⟨r, r1, r2, r3⟩ := round_fact (w := y) hf ok (Rat.le_trans l m)
  refine ⟨r, r1, r2, ?_⟩
  have a : (mstR w h g).abs = mstR w h g := by
    rw [abs_is']
    have := abs_nn' v
    grind
  have o := off_mono (w := y) (x := v) hf okm (by rw [a]; exact l)
  have := abs_add (r - v) (v - u)
  have e : r - v + (v - u) = r - u := by grind
  rw [e] at this
  grind
/-- THE FACT of rules -/
theorem hold_fact {f : Fm} {y : Wy} {w : Wrd} {h g H : Hd} {x z x' z' : Rat} (hf : FmOk f) (e : holdR f y w h g = some H) (ih : h.Is) (ig : g.Is) (hx : In h x) (hz : In g z)
    (ex : (x' - x).abs ≤ h.off) (ez : (z' - z).abs ≤ g.off) (nx : IsNum f x') (nz : IsNum f z') (ok : Ok (w.ex x' z')) (okm : Ok (mstR w h g)) :
    In H (w.ex x z) ∧ ∃ r, roundR f y (w.ex x' z') = some r ∧ IsNum f r ∧ (r - w.ex x z).abs ≤ H.off := by
  have n := hold_div e
  have inn := ex_in (w := w) hx hz (div_n ig n)
  have er := err (w := w) hx hz ex ez n
  obtain ⟨e1, e2, e3, e4⟩ := hold_is e
  refine ⟨⟨by rw [e1]; exact inn.1, by rw [e2]; exact inn.2⟩, ?_⟩
  rw [e3]
  cases w with
  | neg => exact ⟨_, num_self hf nx.neg, nx.neg, er⟩
  | size => exact ⟨_, num_self hf nx.abs, nx.abs, er⟩
  | least =>
    have q : IsNum f (Wrd.ex .least x' z') := by simp only [Wrd.ex, rmin]; split <;> assumption
    exact ⟨_, num_self hf q, q, er⟩
  | most =>
    have q : IsNum f (Wrd.ex .most x' z') := by simp only [Wrd.ex, rmax]; split <;> assumption
    exact ⟨_, num_self hf q, q, er⟩
  | add => exact big_fact hf e1 e2 rfl (e4 rfl) (spr_nn ih ig n) inn er ok okm
  | sub => exact big_fact hf e1 e2 rfl (e4 rfl) (spr_nn ih ig n) inn er ok okm
  | mul => exact big_fact hf e1 e2 rfl (e4 rfl) (spr_nn ih ig n) inn er ok okm
  | div => exact big_fact hf e1 e2 rfl (e4 rfl) (spr_nn ih ig n) inn er ok okm
theorem hold_mono {f : Fm} {y : Wy} {w : Wrd} {h g h' g' H H' : Hd} (hf : FmOk f) (e : holdR f y w h g = some H) (e' : holdR f y w h' g' = some H') (ih : h.Is) (ig : g.Is) (ig' : g'.Is) (c : Cov h' h) (k : Cov g' g) (okm : Ok (mstR w h' g')) : Cov H' H := by
  have n := hold_div e
  have n' := hold_div e'
  have em := ends_mono (w := w) c k ih.le ig.le (div_n ig' n')
  have sm := spr_mono c k ih ig n'
  have el := ends_le ih ig n
  have s := spr_nn ih ig n
  obtain ⟨e1, e2, e3, _⟩ := hold_is e
  obtain ⟨d1, d2, d3, _⟩ := hold_is e'
  refine ⟨by rw [e1, d1]; exact em.1, by rw [e2, d2]; exact em.2, ?_⟩
  rw [e3, d3]
  have mm : mstR w h g ≤ mstR w h' g' := by
    unfold mstR
    have := mx_sub em.1 em.2 el
    grind
  have m0 : 0 ≤ mstR w h g := by
    unfold mstR
    have := mx_nn (eLo w h g) (eHi w h g)
    grind
  have o := off_mono (w := y) (x := mstR w h g) hf okm (by rw [abs_is', abs_is']; grind)
  have c3 := c.off
  have k3 := k.off
  cases w <;> simp only [rmax] <;> grind
end Ra
end
section
set_option Elab.async false
set_option linter.all false
set_option maxRecDepth 100000
set_option maxHeartbeats 1000000
namespace Ra
open PySem PySem.Spec PyProof.Rows L2 Mi
@[simp] theorem sq_near_near (S : Sto) : fEq false (.str "near") (.str "near") S = .ok (.bl true) S := by kernel_rfl
@[simp] theorem sq_near_down (S : Sto) : fEq false (.str "near") (.str "down") S = .ok (.bl false) S := by kernel_rfl
@[simp] theorem sq_near_up (S : Sto) : fEq false (.str "near") (.str "up") S = .ok (.bl false) S := by kernel_rfl
@[simp] theorem sq_near_zero (S : Sto) : fEq false (.str "near") (.str "zero") S = .ok (.bl false) S := by kernel_rfl
@[simp] theorem sq_down_near (S : Sto) : fEq false (.str "down") (.str "near") S = .ok (.bl false) S := by kernel_rfl
@[simp] theorem sq_down_down (S : Sto) : fEq false (.str "down") (.str "down") S = .ok (.bl true) S := by kernel_rfl
@[simp] theorem sq_down_up (S : Sto) : fEq false (.str "down") (.str "up") S = .ok (.bl false) S := by kernel_rfl
@[simp] theorem sq_down_zero (S : Sto) : fEq false (.str "down") (.str "zero") S = .ok (.bl false) S := by kernel_rfl
@[simp] theorem sq_up_near (S : Sto) : fEq false (.str "up") (.str "near") S = .ok (.bl false) S := by kernel_rfl
@[simp] theorem sq_up_down (S : Sto) : fEq false (.str "up") (.str "down") S = .ok (.bl false) S := by kernel_rfl
@[simp] theorem sq_up_up (S : Sto) : fEq false (.str "up") (.str "up") S = .ok (.bl true) S := by kernel_rfl
@[simp] theorem sq_up_zero (S : Sto) : fEq false (.str "up") (.str "zero") S = .ok (.bl false) S := by kernel_rfl
@[simp] theorem sq_zero_near (S : Sto) : fEq false (.str "zero") (.str "near") S = .ok (.bl false) S := by kernel_rfl
@[simp] theorem sq_zero_down (S : Sto) : fEq false (.str "zero") (.str "down") S = .ok (.bl false) S := by kernel_rfl
@[simp] theorem sq_zero_up (S : Sto) : fEq false (.str "zero") (.str "up") S = .ok (.bl false) S := by kernel_rfl
@[simp] theorem sq_zero_zero (S : Sto) : fEq false (.str "zero") (.str "zero") S = .ok (.bl true) S := by kernel_rfl
@[simp] theorem sq_neg_neg (S : Sto) : fEq false (.str "neg") (.str "neg") S = .ok (.bl true) S := by kernel_rfl
@[simp] theorem sq_neg_size (S : Sto) : fEq false (.str "neg") (.str "size") S = .ok (.bl false) S := by kernel_rfl
@[simp] theorem sq_neg_add (S : Sto) : fEq false (.str "neg") (.str "add") S = .ok (.bl false) S := by kernel_rfl
@[simp] theorem sq_neg_sub (S : Sto) : fEq false (.str "neg") (.str "sub") S = .ok (.bl false) S := by kernel_rfl
@[simp] theorem sq_neg_mul (S : Sto) : fEq false (.str "neg") (.str "mul") S = .ok (.bl false) S := by kernel_rfl
@[simp] theorem sq_neg_div (S : Sto) : fEq false (.str "neg") (.str "div") S = .ok (.bl false) S := by kernel_rfl
@[simp] theorem sq_neg_least (S : Sto) : fEq false (.str "neg") (.str "least") S = .ok (.bl false) S := by kernel_rfl
@[simp] theorem sq_neg_most (S : Sto) : fEq false (.str "neg") (.str "most") S = .ok (.bl false) S := by kernel_rfl
@[simp] theorem sq_size_neg (S : Sto) : fEq false (.str "size") (.str "neg") S = .ok (.bl false) S := by kernel_rfl
@[simp] theorem sq_size_size (S : Sto) : fEq false (.str "size") (.str "size") S = .ok (.bl true) S := by kernel_rfl
@[simp] theorem sq_size_add (S : Sto) : fEq false (.str "size") (.str "add") S = .ok (.bl false) S := by kernel_rfl
@[simp] theorem sq_size_sub (S : Sto) : fEq false (.str "size") (.str "sub") S = .ok (.bl false) S := by kernel_rfl
@[simp] theorem sq_size_mul (S : Sto) : fEq false (.str "size") (.str "mul") S = .ok (.bl false) S := by kernel_rfl
@[simp] theorem sq_size_div (S : Sto) : fEq false (.str "size") (.str "div") S = .ok (.bl false) S := by kernel_rfl
@[simp] theorem sq_size_least (S : Sto) : fEq false (.str "size") (.str "least") S = .ok (.bl false) S := by kernel_rfl
@[simp] theorem sq_size_most (S : Sto) : fEq false (.str "size") (.str "most") S = .ok (.bl false) S := by kernel_rfl
@[simp] theorem sq_add_neg (S : Sto) : fEq false (.str "add") (.str "neg") S = .ok (.bl false) S := by kernel_rfl
@[simp] theorem sq_add_size (S : Sto) : fEq false (.str "add") (.str "size") S = .ok (.bl false) S := by kernel_rfl
@[simp] theorem sq_add_add (S : Sto) : fEq false (.str "add") (.str "add") S = .ok (.bl true) S := by kernel_rfl
@[simp] theorem sq_add_sub (S : Sto) : fEq false (.str "add") (.str "sub") S = .ok (.bl false) S := by kernel_rfl
@[simp] theorem sq_add_mul (S : Sto) : fEq false (.str "add") (.str "mul") S = .ok (.bl false) S := by kernel_rfl
@[simp] theorem sq_add_div (S : Sto) : fEq false (.str "add") (.str "div") S = .ok (.bl false) S := by kernel_rfl
@[simp] theorem sq_add_least (S : Sto) : fEq false (.str "add") (.str "least") S = .ok (.bl false) S := by kernel_rfl
@[simp] theorem sq_add_most (S : Sto) : fEq false (.str "add") (.str "most") S = .ok (.bl false) S := by kernel_rfl
@[simp] theorem sq_sub_neg (S : Sto) : fEq false (.str "sub") (.str "neg") S = .ok (.bl false) S := by kernel_rfl
@[simp] theorem sq_sub_size (S : Sto) : fEq false (.str "sub") (.str "size") S = .ok (.bl false) S := by kernel_rfl
@[simp] theorem sq_sub_add (S : Sto) : fEq false (.str "sub") (.str "add") S = .ok (.bl false) S := by kernel_rfl
@[simp] theorem sq_sub_sub (S : Sto) : fEq false (.str "sub") (.str "sub") S = .ok (.bl true) S := by kernel_rfl
@[simp] theorem sq_sub_mul (S : Sto) : fEq false (.str "sub") (.str "mul") S = .ok (.bl false) S := by kernel_rfl
@[simp] theorem sq_sub_div (S : Sto) : fEq false (.str "sub") (.str "div") S = .ok (.bl false) S := by kernel_rfl
@[simp] theorem sq_sub_least (S : Sto) : fEq false (.str "sub") (.str "least") S = .ok (.bl false) S := by kernel_rfl
@[simp] theorem sq_sub_most (S : Sto) : fEq false (.str "sub") (.str "most") S = .ok (.bl false) S := by kernel_rfl
@[simp] theorem sq_mul_neg (S : Sto) : fEq false (.str "mul") (.str "neg") S = .ok (.bl false) S := by kernel_rfl
@[simp] theorem sq_mul_size (S : Sto) : fEq false (.str "mul") (.str "size") S = .ok (.bl false) S := by kernel_rfl
@[simp] theorem sq_mul_add (S : Sto) : fEq false (.str "mul") (.str "add") S = .ok (.bl false) S := by kernel_rfl
@[simp] theorem sq_mul_sub (S : Sto) : fEq false (.str "mul") (.str "sub") S = .ok (.bl false) S := by kernel_rfl
@[simp] theorem sq_mul_mul (S : Sto) : fEq false (.str "mul") (.str "mul") S = .ok (.bl true) S := by kernel_rfl
@[simp] theorem sq_mul_div (S : Sto) : fEq false (.str "mul") (.str "div") S = .ok (.bl false) S := by kernel_rfl
@[simp] theorem sq_mul_least (S : Sto) : fEq false (.str "mul") (.str "least") S = .ok (.bl false) S := by kernel_rfl
@[simp] theorem sq_mul_most (S : Sto) : fEq false (.str "mul") (.str "most") S = .ok (.bl false) S := by kernel_rfl
@[simp] theorem sq_div_neg (S : Sto) : fEq false (.str "div") (.str "neg") S = .ok (.bl false) S := by kernel_rfl
@[simp] theorem sq_div_size (S : Sto) : fEq false (.str "div") (.str "size") S = .ok (.bl false) S := by kernel_rfl
@[simp] theorem sq_div_add (S : Sto) : fEq false (.str "div") (.str "add") S = .ok (.bl false) S := by kernel_rfl
@[simp] theorem sq_div_sub (S : Sto) : fEq false (.str "div") (.str "sub") S = .ok (.bl false) S := by kernel_rfl
@[simp] theorem sq_div_mul (S : Sto) : fEq false (.str "div") (.str "mul") S = .ok (.bl false) S := by kernel_rfl
@[simp] theorem sq_div_div (S : Sto) : fEq false (.str "div") (.str "div") S = .ok (.bl true) S := by kernel_rfl
@[simp] theorem sq_div_least (S : Sto) : fEq false (.str "div") (.str "least") S = .ok (.bl false) S := by kernel_rfl
@[simp] theorem sq_div_most (S : Sto) : fEq false (.str "div") (.str "most") S = .ok (.bl false) S := by kernel_rfl
@[simp] theorem sq_least_neg (S : Sto) : fEq false (.str "least") (.str "neg") S = .ok (.bl false) S := by kernel_rfl
@[simp] theorem sq_least_size (S : Sto) : fEq false (.str "least") (.str "size") S = .ok (.bl false) S := by kernel_rfl
@[simp] theorem sq_least_add (S : Sto) : fEq false (.str "least") (.str "add") S = .ok (.bl false) S := by kernel_rfl
@[simp] theorem sq_least_sub (S : Sto) : fEq false (.str "least") (.str "sub") S = .ok (.bl false) S := by kernel_rfl
@[simp] theorem sq_least_mul (S : Sto) : fEq false (.str "least") (.str "mul") S = .ok (.bl false) S := by kernel_rfl
@[simp] theorem sq_least_div (S : Sto) : fEq false (.str "least") (.str "div") S = .ok (.bl false) S := by kernel_rfl
@[simp] theorem sq_least_least (S : Sto) : fEq false (.str "least") (.str "least") S = .ok (.bl true) S := by kernel_rfl
@[simp] theorem sq_least_most (S : Sto) : fEq false (.str "least") (.str "most") S = .ok (.bl false) S := by kernel_rfl
@[simp] theorem sq_most_neg (S : Sto) : fEq false (.str "most") (.str "neg") S = .ok (.bl false) S := by kernel_rfl
@[simp] theorem sq_most_size (S : Sto) : fEq false (.str "most") (.str "size") S = .ok (.bl false) S := by kernel_rfl
@[simp] theorem sq_most_add (S : Sto) : fEq false (.str "most") (.str "add") S = .ok (.bl false) S := by kernel_rfl
@[simp] theorem sq_most_sub (S : Sto) : fEq false (.str "most") (.str "sub") S = .ok (.bl false) S := by kernel_rfl
@[simp] theorem sq_most_mul (S : Sto) : fEq false (.str "most") (.str "mul") S = .ok (.bl false) S := by kernel_rfl
@[simp] theorem sq_most_div (S : Sto) : fEq false (.str "most") (.str "div") S = .ok (.bl false) S := by kernel_rfl
@[simp] theorem sq_most_least (S : Sto) : fEq false (.str "most") (.str "least") S = .ok (.bl false) S := by kernel_rfl
@[simp] theorem sq_most_most (S : Sto) : fEq false (.str "most") (.str "most") S = .ok (.bl true) S := by kernel_rfl
@[simp] theorem si_neg_as (S : Sto) : fIn false (.str "neg") (.tup [.str "add", .str "sub"]) S = .ok (.bl false) S := by kernel_rfl
@[simp] theorem si_neg_md (S : Sto) : fIn false (.str "neg") (.tup [.str "mul", .str "div"]) S = .ok (.bl false) S := by kernel_rfl
@[simp] theorem si_neg_lm (S : Sto) : fIn false (.str "neg") (.tup [.str "least", .str "most"]) S = .ok (.bl false) S := by kernel_rfl
@[simp] theorem sd_neg_ns (S : Sto) : fIn false (.str "neg") (.tup [.str "neg", .str "size"]) S = .ok (.bl true) S := by kernel_rfl
@[simp] theorem sd_neg (S : Sto) : fIn true (.str "neg") (.tup [.str "neg", .str "size", .str "add", .str "sub", .str "mul", .str "div", .str "least", .str "most"]) S = .ok (.bl false) S := by kernel_rfl
@[simp] theorem si_size_as (S : Sto) : fIn false (.str "size") (.tup [.str "add", .str "sub"]) S = .ok (.bl false) S := by kernel_rfl
@[simp] theorem si_size_md (S : Sto) : fIn false (.str "size") (.tup [.str "mul", .str "div"]) S = .ok (.bl false) S := by kernel_rfl
@[simp] theorem si_size_lm (S : Sto) : fIn false (.str "size") (.tup [.str "least", .str "most"]) S = .ok (.bl false) S := by kernel_rfl
@[simp] theorem sd_size_ns (S : Sto) : fIn false (.str "size") (.tup [.str "neg", .str "size"]) S = .ok (.bl true) S := by kernel_rfl
@[simp] theorem sd_size (S : Sto) : fIn true (.str "size") (.tup [.str "neg", .str "size", .str "add", .str "sub", .str "mul", .str "div", .str "least", .str "most"]) S = .ok (.bl false) S := by kernel_rfl
@[simp] theorem si_add_as (S : Sto) : fIn false (.str "add") (.tup [.str "add", .str "sub"]) S = .ok (.bl true) S := by kernel_rfl
@[simp] theorem si_add_md (S : Sto) : fIn false (.str "add") (.tup [.str "mul", .str "div"]) S = .ok (.bl false) S := by kernel_rfl
@[simp] theorem si_add_lm (S : Sto) : fIn false (.str "add") (.tup [.str "least", .str "most"]) S = .ok (.bl false) S := by kernel_rfl
@[simp] theorem sd_add_ns (S : Sto) : fIn false (.str "add") (.tup [.str "neg", .str "size"]) S = .ok (.bl false) S := by kernel_rfl
@[simp] theorem sd_add (S : Sto) : fIn true (.str "add") (.tup [.str "neg", .str "size", .str "add", .str "sub", .str "mul", .str "div", .str "least", .str "most"]) S = .ok (.bl false) S := by kernel_rfl
@[simp] theorem si_sub_as (S : Sto) : fIn false (.str "sub") (.tup [.str "add", .str "sub"]) S = .ok (.bl true) S := by kernel_rfl
@[simp] theorem si_sub_md (S : Sto) : fIn false (.str "sub") (.tup [.str "mul", .str "div"]) S = .ok (.bl false) S := by kernel_rfl
@[simp] theorem si_sub_lm (S : Sto) : fIn false (.str "sub") (.tup [.str "least", .str "most"]) S = .ok (.bl false) S := by kernel_rfl
@[simp] theorem sd_sub_ns (S : Sto) : fIn false (.str "sub") (.tup [.str "neg", .str "size"]) S = .ok (.bl false) S := by kernel_rfl
@[simp] theorem sd_sub (S : Sto) : fIn true (.str "sub") (.tup [.str "neg", .str "size", .str "add", .str "sub", .str "mul", .str "div", .str "least", .str "most"]) S = .ok (.bl false) S := by kernel_rfl
@[simp] theorem si_mul_as (S : Sto) : fIn false (.str "mul") (.tup [.str "add", .str "sub"]) S = .ok (.bl false) S := by kernel_rfl
@[simp] theorem si_mul_md (S : Sto) : fIn false (.str "mul") (.tup [.str "mul", .str "div"]) S = .ok (.bl true) S := by kernel_rfl
@[simp] theorem si_mul_lm (S : Sto) : fIn false (.str "mul") (.tup [.str "least", .str "most"]) S = .ok (.bl false) S := by kernel_rfl
@[simp] theorem sd_mul_ns (S : Sto) : fIn false (.str "mul") (.tup [.str "neg", .str "size"]) S = .ok (.bl false) S := by kernel_rfl
@[simp] theorem sd_mul (S : Sto) : fIn true (.str "mul") (.tup [.str "neg", .str "size", .str "add", .str "sub", .str "mul", .str "div", .str "least", .str "most"]) S = .ok (.bl false) S := by kernel_rfl
@[simp] theorem si_div_as (S : Sto) : fIn false (.str "div") (.tup [.str "add", .str "sub"]) S = .ok (.bl false) S := by kernel_rfl
@[simp] theorem si_div_md (S : Sto) : fIn false (.str "div") (.tup [.str "mul", .str "div"]) S = .ok (.bl true) S := by kernel_rfl
@[simp] theorem si_div_lm (S : Sto) : fIn false (.str "div") (.tup [.str "least", .str "most"]) S = .ok (.bl false) S := by kernel_rfl
@[simp] theorem sd_div_ns (S : Sto) : fIn false (.str "div") (.tup [.str "neg", .str "size"]) S = .ok (.bl false) S := by kernel_rfl
@[simp] theorem sd_div (S : Sto) : fIn true (.str "div") (.tup [.str "neg", .str "size", .str "add", .str "sub", .str "mul", .str "div", .str "least", .str "most"]) S = .ok (.bl false) S := by kernel_rfl
@[simp] theorem si_least_as (S : Sto) : fIn false (.str "least") (.tup [.str "add", .str "sub"]) S = .ok (.bl false) S := by kernel_rfl
@[simp] theorem si_least_md (S : Sto) : fIn false (.str "least") (.tup [.str "mul", .str "div"]) S = .ok (.bl false) S := by kernel_rfl
@[simp] theorem si_least_lm (S : Sto) : fIn false (.str "least") (.tup [.str "least", .str "most"]) S = .ok (.bl true) S := by kernel_rfl
@[simp] theorem sd_least_ns (S : Sto) : fIn false (.str "least") (.tup [.str "neg", .str "size"]) S = .ok (.bl false) S := by kernel_rfl
@[simp] theorem sd_least (S : Sto) : fIn true (.str "least") (.tup [.str "neg", .str "size", .str "add", .str "sub", .str "mul", .str "div", .str "least", .str "most"]) S = .ok (.bl false) S := by kernel_rfl
@[simp] theorem si_most_as (S : Sto) : fIn false (.str "most") (.tup [.str "add", .str "sub"]) S = .ok (.bl false) S := by kernel_rfl
@[simp] theorem si_most_md (S : Sto) : fIn false (.str "most") (.tup [.str "mul", .str "div"]) S = .ok (.bl false) S := by kernel_rfl
@[simp] theorem si_most_lm (S : Sto) : fIn false (.str "most") (.tup [.str "least", .str "most"]) S = .ok (.bl true) S := by kernel_rfl
@[simp] theorem sd_most_ns (S : Sto) : fIn false (.str "most") (.tup [.str "neg", .str "size"]) S = .ok (.bl false) S := by kernel_rfl
@[simp] theorem sd_most (S : Sto) : fIn true (.str "most") (.tup [.str "neg", .str "size", .str "add", .str "sub", .str "mul", .str "div", .str "least", .str "most"]) S = .ok (.bl false) S := by kernel_rfl
@[simp] theorem sw_near (S : Sto) : fIn true (.str "near") (.tup [.str "near", .str "down", .str "up", .str "zero"]) S = .ok (.bl false) S := by kernel_rfl
@[simp] theorem swc_near (S : Sto) : fIn true (.str "near") (.ct [.str "near", .str "down", .str "up", .str "zero"]) S = .ok (.bl false) S := by kernel_rfl
@[simp] theorem sw_down (S : Sto) : fIn true (.str "down") (.tup [.str "near", .str "down", .str "up", .str "zero"]) S = .ok (.bl false) S := by kernel_rfl
@[simp] theorem swc_down (S : Sto) : fIn true (.str "down") (.ct [.str "near", .str "down", .str "up", .str "zero"]) S = .ok (.bl false) S := by kernel_rfl
@[simp] theorem sw_up (S : Sto) : fIn true (.str "up") (.tup [.str "near", .str "down", .str "up", .str "zero"]) S = .ok (.bl false) S := by kernel_rfl
@[simp] theorem swc_up (S : Sto) : fIn true (.str "up") (.ct [.str "near", .str "down", .str "up", .str "zero"]) S = .ok (.bl false) S := by kernel_rfl
@[simp] theorem sw_zero (S : Sto) : fIn true (.str "zero") (.tup [.str "near", .str "down", .str "up", .str "zero"]) S = .ok (.bl false) S := by kernel_rfl
@[simp] theorem swc_zero (S : Sto) : fIn true (.str "zero") (.ct [.str "near", .str "down", .str "up", .str "zero"]) S = .ok (.bl false) S := by kernel_rfl
theorem two_words (S : Sto) : fAdd false (.tup [.str "neg", .str "size"]) (.tup [.str "add", .str "sub", .str "mul", .str "div", .str "least", .str "most"]) S = .ok (.tup [.str "neg", .str "size", .str "add", .str "sub", .str "mul", .str "div", .str "least", .str "most"]) S := by kernel_rfl
end Ra
end
section
set_option Elab.async false
set_option linter.all false
set_option maxRecDepth 100000
set_option maxHeartbeats 1000000
/-! sizes of fractions: two bounds -/
namespace Ra
open PySem PySem.Spec PyProof.Rows L2 Mi
structure Sz (n d : Nat) (q : Rat) : Prop where
  n : q.num.natAbs ≤ n
  d : q.den ≤ d
theorem Sz.mono {n d n' d' : Nat} {q : Rat} (h : Sz n d q) (a : n ≤ n') (b : d ≤ d') : Sz n' d' q := ⟨Nat.le_trans h.n a, Nat.le_trans h.d b⟩
theorem Sz.ok {n d : Nat} {q : Rat} (h : Sz n d q) (a : n < 10 ^ 300) (b : d < 10 ^ 300) : Ok q := ⟨Nat.lt_of_le_of_lt h.n a, Nat.lt_of_le_of_lt h.d b⟩
theorem num_ge {n : Nat} {d : Nat} {a b : Int} (hb : b ≠ 0) (h1 : a.natAbs ≤ n) (h2 : b.natAbs ≤ d) : Sz n d (Rat.divInt a b) := by
  have fa : ∀ (c : Int) (g : Nat), (c.fdiv g).natAbs ≤ c.natAbs := fun c g => fdiv_abs
  by_cases p : 0 < b
  · have e1 := num_div (a := a) p
    have e2 := den_div (a := a) p
    have l1 := fa a (Int.gcd a b)
    have l2 := fa b (Int.gcd a b)
    rw [← e1] at l1
    rw [← e2] at l2
    exact ⟨by omega, by omega⟩
  · have e1 := num_divN (a := a) (show b < 0 by omega)
    have e2 := den_divN (a := a) (show b < 0 by omega)
    have l1 := fa (-a) (Int.gcd a b)
    have l2 := fa (-b) (Int.gcd a b)
    rw [← e1] at l1
    rw [← e2] at l2
    exact ⟨by omega, by omega⟩
theorem Sz.add {n d m e : Nat} {x y : Rat} (hx : Sz n d x) (hy : Sz m e y) : Sz (n * e + m * d) (d * e) (x + y) := by
  rw [← add_is]
  refine num_ge (Int.mul_ne_zero (den0 x) (den0 y)) ?_ ?_
  · have a := mul_abs hx.n (show ((y.den : Nat) : Int).natAbs ≤ e by have := hy.d; omega)
    have b := mul_abs hy.n (show ((x.den : Nat) : Int).natAbs ≤ d by have := hx.d; omega)
    have c : (x.num * y.den + y.num * x.den).natAbs ≤ (x.num * y.den).natAbs + (y.num * x.den).natAbs := Int.natAbs_add_le _ _
    omega
  · exact mul_abs (show ((x.den : Nat) : Int).natAbs ≤ d by have := hx.d; omega) (show ((y.den : Nat) : Int).natAbs ≤ e by have := hy.d; omega)
theorem Sz.neg {n d : Nat} {x : Rat} (h : Sz n d x) : Sz n d (-x) := ⟨by rw [Rat.neg_num, Int.natAbs_neg]; exact h.n, by rw [Rat.neg_den]; exact h.d⟩
theorem Sz.sub {n d m e : Nat} {x y : Rat} (hx : Sz n d x) (hy : Sz m e y) : Sz (n * e + m * d) (d * e) (x - y) := by
  rw [Rat.sub_eq_add_neg]
  exact hx.add hy.neg
theorem Sz.mul {n d m e : Nat} {x y : Rat} (hx : Sz n d x) (hy : Sz m e y) : Sz (n * m) (d * e) (x * y) := by
  rw [← mul_is]
  refine num_ge (Int.mul_ne_zero (den0 x) (den0 y)) (mul_abs hx.n hy.n) ?_
  exact mul_abs (show ((x.den : Nat) : Int).natAbs ≤ d by have := hx.d; omega) (show ((y.den : Nat) : Int).natAbs ≤ e by have := hy.d; omega)
theorem Sz.div {n d m e : Nat} {x y : Rat} (hx : Sz n d x) (hy : Sz m e y) (o : 1 ≤ d * m) : Sz (n * e) (d * m) (x / y) := by
  by_cases z : y = 0
  · have : x / y = 0 := by rw [z]; grind
    rw [this]
    exact ⟨Nat.zero_le _, o⟩
  · rw [← div_is]
    refine num_ge (Int.mul_ne_zero (den0 x) (fun h => z (num0.mp h))) ?_ ?_
    · exact mul_abs hx.n (show ((y.den : Nat) : Int).natAbs ≤ e by have := hy.d; omega)
    · exact mul_abs (show ((x.den : Nat) : Int).natAbs ≤ d by have := hx.d; omega) hy.n
theorem Sz.abs {n d : Nat} {x : Rat} (h : Sz n d x) : Sz n d x.abs := ⟨by rw [abs_num]; have := h.n; split <;> omega, by rw [abs_den]; exact h.d⟩
theorem Sz.rmax {n d : Nat} {x y : Rat} (h : Sz n d x) (k : Sz n d y) : Sz n d (rmax x y) := by unfold Ra.rmax; split <;> assumption
theorem Sz.rmin {n d : Nat} {x y : Rat} (h : Sz n d x) (k : Sz n d y) : Sz n d (rmin x y) := by unfold Ra.rmin; split <;> assumption
theorem Sz.mx {n d : Nat} {x y : Rat} (h : Sz n d x) (k : Sz n d y) : Sz n d (mx x y) := h.abs.rmax k.abs
theorem Sz.ls {n d : Nat} {x y : Rat} (h : Sz n d x) (k : Sz n d y) : Sz n d (ls x y) := by
  unfold Ra.ls
  split
  · exact ⟨Nat.zero_le _, Nat.le_trans h.abs.d (Nat.le_refl _) |> fun z => Nat.le_trans (x.den_pos) (by rw [abs_den] at z; exact z)⟩
  · exact h.abs.rmin k.abs
/-- a hold's sizes: of its ends, of its off -/
structure HSz (e n d : Nat) (h : Hd) : Prop where
  lo : Sz e e h.lo
  hi : Sz e e h.hi
  off : Sz n d h.off
theorem HSz.mono {e n d e' n' d' : Nat} {h : Hd} (k : HSz e n d h) (a : e ≤ e') (b : n ≤ n') (c : d ≤ d') : HSz e' n' d' h := ⟨k.lo.mono a a, k.hi.mono a a, k.off.mono b c⟩
theorem ex_sz {w : Wrd} {e : Nat} {x y : Rat} (he : 1 ≤ e) (hx : Sz e e x) (hy : Sz e e y) : Sz (2 * e * e) (2 * e * e) (w.ex x y) := by
  have e1 : 1 * e ≤ e * e := Nat.mul_le_mul he (Nat.le_refl _)
  have e2 : e * e + e * e = 2 * e * e := by grind
  have e3 : e * e ≤ 2 * e * e := by omega
  have e4 : e ≤ 2 * e * e := by omega
  cases w with
  | neg => exact hx.neg.mono e4 e4
  | size => exact hx.abs.mono e4 e4
  | add => exact (hx.add hy).mono (by omega) e3
  | sub => exact (hx.sub hy).mono (by omega) e3
  | mul => exact (hx.mul hy).mono e3 e3
  | div => exact (hx.div hy (by omega)).mono e3 e3
  | least => exact (hx.rmin hy).mono e4 e4
  | most => exact (hx.rmax hy).mono e4 e4
theorem ends_sz {w : Wrd} {e n d n' d' : Nat} {h g : Hd} (he : 1 ≤ e) (hh : HSz e n d h) (hg : HSz e n' d' g) : Sz (2 * e * e) (2 * e * e) (eLo w h g) ∧ Sz (2 * e * e) (2 * e * e) (eHi w h g) := by
  have e1 : 1 * e ≤ e * e := Nat.mul_le_mul he (Nat.le_refl _)
  have e4 : e ≤ 2 * e * e := by grind
  cases w with
  | neg => exact ⟨hh.hi.neg.mono e4 e4, hh.lo.neg.mono e4 e4⟩
  | size => exact ⟨(hh.lo.ls hh.hi).mono e4 e4, (hh.lo.mx hh.hi).mono e4 e4⟩
  | add => exact ⟨ex_sz (w := .add) he hh.lo hg.lo, ex_sz (w := .add) he hh.hi hg.hi⟩
  | sub => exact ⟨ex_sz (w := .sub) he hh.lo hg.hi, ex_sz (w := .sub) he hh.hi hg.lo⟩
  | mul =>
    have a1 := ex_sz (w := .mul) he hh.lo hg.lo
    have a2 := ex_sz (w := .mul) he hh.lo hg.hi
    have a3 := ex_sz (w := .mul) he hh.hi hg.lo
    have a4 := ex_sz (w := .mul) he hh.hi hg.hi
    exact ⟨((a1.rmin a2).rmin a3).rmin a4, ((a1.rmax a2).rmax a3).rmax a4⟩
  | div =>
    have a1 := ex_sz (w := .div) he hh.lo hg.lo
    have a2 := ex_sz (w := .div) he hh.lo hg.hi
    have a3 := ex_sz (w := .div) he hh.hi hg.lo
    have a4 := ex_sz (w := .div) he hh.hi hg.hi
    exact ⟨((a1.rmin a2).rmin a3).rmin a4, ((a1.rmax a2).rmax a3).rmax a4⟩
  | least => exact ⟨(hh.lo.rmin hg.lo).mono e4 e4, (hh.hi.rmin hg.hi).mono e4 e4⟩
  | most => exact ⟨(hh.lo.rmax hg.lo).mono e4 e4, (hh.hi.rmax hg.hi).mono e4 e4⟩
/-- what of a spread comes in between -/
structure SpSz (e n d : Nat) (h g : Hd) : Prop where
  a : Sz (e * n) (e * d) (mx h.lo h.hi * g.off)
  b : Sz (e * n) (e * d) (mx g.lo g.hi * h.off)
  ab : Sz (e * n * (e * d) + e * n * (e * d)) (e * d * (e * d)) (mx h.lo h.hi * g.off + mx g.lo g.hi * h.off)
  c : Sz (n * n) (d * d) (h.off * g.off)
  m : Sz ((e * n * (e * d) + e * n * (e * d)) * (d * d) + n * n * (e * d * (e * d))) (e * d * (e * d) * (d * d)) (mx h.lo h.hi * g.off + mx g.lo g.hi * h.off + h.off * g.off)
  p : Sz (e * n * e) (e * d * e) (mx h.lo h.hi * g.off / ls g.lo g.hi)
  q : Sz (n * (e * d * e) + e * n * e * d) (d * (e * d * e)) (h.off + mx h.lo h.hi * g.off / ls g.lo g.hi)
  l : Sz (e * d + n * e) (e * d) (ls g.lo g.hi - g.off)
  r : Sz ((n * (e * d * e) + e * n * e * d) * (e * d)) (d * (e * d * e) * (e * d + n * e)) ((h.off + mx h.lo h.hi * g.off / ls g.lo g.hi) / (ls g.lo g.hi - g.off))
  s : Sz (n * d + n * d) (d * d) (h.off + g.off)
theorem sp_sz {e n d : Nat} {h g : Hd} (he : 1 ≤ e) (hd : 1 ≤ d) (hh : HSz e n d h) (hg : HSz e n d g) : SpSz e n d h g := by
  have x1 : 1 * 1 ≤ e * d := Nat.mul_le_mul he hd
  have x2 : 1 * 1 ≤ e * d * e := Nat.mul_le_mul x1 he
  have x3 : 1 * 1 ≤ d * (e * d * e) := Nat.mul_le_mul hd x2
  have x4 : 1 * 1 ≤ d * (e * d * e) * (e * d + n * e) := Nat.mul_le_mul x3 (by omega)
  have M := hh.lo.mx hh.hi
  have N := hg.lo.mx hg.hi
  have L := hg.lo.ls hg.hi
  have a := M.mul hg.off
  have b := N.mul hh.off
  have c := hh.off.mul hg.off
  have ab := a.add b
  have p := a.div L (by omega)
  have q := hh.off.add p
  have l := L.sub hg.off
  exact ⟨a, b, ab, c, ab.add c, p, q, l, q.div l (by omega), hh.off.add hg.off⟩
end Ra
end
section
set_option Elab.async false
set_option linter.all false
set_option maxRecDepth 100000
set_option maxHeartbeats 1000000
/-! == of fractions, of holds -/
namespace Ra
open PySem PySem.Spec PyProof.Rows L2 Mi
def dQ (x : Rat) : PyData := .tuple [.int x.num, .int (x.den : Int)]
theorem rat_ext {x y : Rat} (h1 : x.num = y.num) (h2 : x.den = y.den) : x = y := Rat.ext h1 h2
theorem eqv_q (x y : Rat) : PyData.eqv (dQ x) (dQ y) = decide (x = y) := by
  by_cases h : x = y
  · subst h
    simp [dQ, PyData.eqv, PyData.eqvAll]
  · have : ¬ (x.num = y.num ∧ (x.den : Int) = (y.den : Int)) := fun z => h (rat_ext z.1 (by have := z.2; omega))
    by_cases h1 : x.num = y.num
    · have h2 : ¬ ((x.den : Int) = (y.den : Int)) := fun z => this ⟨h1, z⟩
      have h3 : ¬ x.den = y.den := by omega
      simp [dQ, PyData.eqv, PyData.eqvAll, h]
      exact fun _ => h2
    · simp [dQ, PyData.eqv, PyData.eqvAll, h, h1]
theorem eq_q (neg : Bool) (x y : Rat) (S : Sto) : fEq neg (eQ x) (eQ y) S = .ok (.bl (if neg = true then !decide (x = y) else decide (x = y))) S := by
  rw [← eqv_q]
  have shp : ∀ q : Rat, SeqAt.shaped (dQ q) = true := fun q => by
    unfold SeqAt.shaped
    simp [dQ, PyData.canLay0, PyData.canLayAll0, PyData.depth, PyData.depthAll]
  show (if SeqAt.shaped (dQ x) = true ∧ SeqAt.shaped (dQ y) = true then Res.ok (PV.bl (if neg = true then !PyData.eqv (dQ x) (dQ y) else PyData.eqv (dQ x) (dQ y))) S else .bad) = _
  rw [if_pos ⟨shp x, shp y⟩]
def d3 (a b c : Rat) : PyData := .tuple [dQ a, dQ b, dQ c]
theorem eqv_3 (a b c a' b' c' : Rat) : PyData.eqv (d3 a b c) (d3 a' b' c') = decide (a = a' ∧ b = b' ∧ c = c') := by
  by_cases h1 : a = a' <;> by_cases h2 : b = b' <;> by_cases h3 : c = c' <;> simp [d3, PyData.eqv, PyData.eqvAll, eqv_q, h1, h2, h3]
theorem eq_3 (neg : Bool) (a b c a' b' c' : Rat) (S : Sto) : fEq neg (.tup [eQ a, eQ b, eQ c]) (.tup [eQ a', eQ b', eQ c']) S = .ok (.bl (if neg = true then !decide (a = a' ∧ b = b' ∧ c = c') else decide (a = a' ∧ b = b' ∧ c = c'))) S := by
  rw [← eqv_3]
  have shp : ∀ a b c : Rat, SeqAt.shaped (d3 a b c) = true := fun a b c => by
    unfold SeqAt.shaped
    simp [d3, dQ, PyData.canLay0, PyData.canLayAll0, PyData.depth, PyData.depthAll]
  show (if SeqAt.shaped (d3 a b c) = true ∧ SeqAt.shaped (d3 a' b' c') = true then Res.ok (PV.bl (if neg = true then !PyData.eqv (d3 a b c) (d3 a' b' c') else PyData.eqv (d3 a b c) (d3 a' b' c'))) S else .bad) = _
  rw [if_pos ⟨shp _ _ _, shp _ _ _⟩]
end Ra
end
section
set_option Elab.async false
set_option linter.all false
set_option maxRecDepth 100000
set_option maxHeartbeats 1000000
set_option exponentiation.threshold 5000
/-! what is shown: repr of nested values -/
namespace Ra
open PySem PySem.Spec PyProof.Rows L2 Mi
structure Shw (n : Nat) (d : PyData) : Prop where
  s : d.showable = true
  o : PyData.strOk d.shown = true
  l : d.shown.length ≤ n
theorem Shw.mono {m n : Nat} {d : PyData} (h : Shw m d) (k : m ≤ n) : Shw n d := ⟨h.s, h.o, Nat.le_trans h.l k⟩
theorem ok_app {a b : Str} (h : PyData.strOk a = true) (k : PyData.strOk b = true) : PyData.strOk (a ++ b) = true := by
  unfold PyData.strOk at *
  show (a.cps ++ b.cps).all _ = true
  rw [Array.all_append, h, k]
  rfl
theorem ok_join {sep : Str} (hs : PyData.strOk sep = true) : ∀ ts : List Str, (∀ t ∈ ts, PyData.strOk t = true) → PyData.strOk (Str.join sep ts) = true
  | [], _ => by show PyData.strOk Str.empty = true; decide +kernel
  | [t], h => h t List.mem_cons_self
  | t :: u :: r, h => by
    show PyData.strOk (t ++ sep ++ Str.join sep (u :: r)) = true
    exact ok_app (ok_app (h t List.mem_cons_self) hs) (ok_join hs (u :: r) (fun y hy => h y (List.mem_cons_of_mem _ hy)))
theorem ok_from : ∀ (ts : List Str) (k : Nat) (acc : Str), PyData.strOk acc = true → (∀ t ∈ ts, PyData.strOk t = true) → PyData.strOk (textFrom k acc ts) = true
  | [], k, acc, h, _ => h
  | t :: r, k, acc, h, ht => by
    show PyData.strOk (textFrom (k + 1) (acc ++ (if k > 0 then ", " else "" : String) ++ t) r) = true
    refine ok_from r (k + 1) _ (ok_app (ok_app h ?_) (ht t List.mem_cons_self)) (fun y hy => ht y (List.mem_cons_of_mem _ hy))
    split <;> decide +kernel
theorem ok_tup {ts : List Str} (h : ∀ t ∈ ts, PyData.strOk t = true) : PyData.strOk (tupleText ts) = true := by
  unfold tupleText
  refine ok_app (ok_app (by decide +kernel) (ok_join (by decide +kernel) ts h)) ?_
  split <;> decide +kernel
theorem ok_list {ts : List Str} (h : ∀ t ∈ ts, PyData.strOk t = true) : PyData.strOk (listText ts) = true := ok_app (ok_from ts 0 _ (by decide +kernel) h) (by decide +kernel)
theorem shw_int {i : Int} (h : i.natAbs < 10 ^ 300) : Shw 301 (.int i) := by
  refine ⟨?_, ?_, ?_⟩
  · have : i.natAbs < 2 ^ 1920 := Nat.lt_trans h (by decide +kernel)
    simp only [PyData.showable, decide_eq_true_eq]
    by_cases h0 : i.natAbs = 0
    · rw [h0]; decide +kernel
    · exact (Nat.log2_lt h0).mpr this
  · unfold PyData.strOk
    rw [Array.all_eq_true_iff_forall_mem]
    intro c hc
    simp only [decide_eq_true_eq]
    by_cases q : c < 0x110000
    · exact q
    · exact absurd (by simpa using hc) (shown_int_free' (k := c) ⟨by omega, by omega⟩ i)
  · have e := int_text_length_le10 (k := 300) (by decide) h
    show (Str.ofString (toString i)).length ≤ 301
    rw [PySem.ofString_length]
    exact e
theorem shw_all {n : Nat} : ∀ xs : List PyData, (∀ x ∈ xs, Shw n x) → PyData.showableAll xs = true ∧ (∀ t ∈ PyData.shownAll xs, PyData.strOk t = true) ∧ ((PyData.shownAll xs).map (·.length)).sum ≤ n * xs.length ∧ (PyData.shownAll xs).length = xs.length
  | [], _ => ⟨rfl, (fun t h => by rw [PyData.shownAll] at h; cases h), Nat.zero_le _, rfl⟩
  | x :: xs, h => by
    obtain ⟨a, b, c, d⟩ := shw_all xs (fun y hy => h y (List.mem_cons_of_mem _ hy))
    have k := h x List.mem_cons_self
    refine ⟨?_, ?_, ?_, ?_⟩
    · rw [PyData.showableAll, k.s, a]; rfl
    · intro t ht
      rw [PyData.shownAll] at ht
      rcases List.mem_cons.mp ht with rfl | ht
      · exact k.o
      · exact b t ht
    · rw [PyData.shownAll, List.map_cons, List.sum_cons, List.length_cons, Nat.mul_succ]
      have := k.l
      show x.shown.length + _ ≤ _
      omega
    · rw [PyData.shownAll, List.length_cons, List.length_cons, d]
theorem shw_tup {n m : Nat} {xs : List PyData} (h : ∀ x ∈ xs, Shw n x) (hl : xs.length ≤ m) : Shw ((n + 2) * m + 3) (.tuple xs) := by
  obtain ⟨a, b, c, d⟩ := shw_all xs h
  refine ⟨by rw [PyData.showable]; exact a, by rw [PyData.shown]; exact ok_tup b, ?_⟩
  rw [PyData.shown]
  have e := tupleText_len_le (PyData.shownAll xs)
  have f : n * xs.length ≤ n * m := Nat.mul_le_mul (Nat.le_refl _) hl
  rw [Nat.add_mul]
  omega
theorem shw_list {n m : Nat} {xs : List PyData} (h : ∀ x ∈ xs, Shw n x) (hl : xs.length ≤ m) : Shw ((n + 2) * m + 3) (.list xs) := by
  obtain ⟨a, b, c, d⟩ := shw_all xs h
  refine ⟨by rw [PyData.showable]; exact a, by rw [PyData.shown]; exact ok_list b, ?_⟩
  rw [PyData.shown]
  have e := listText_len_le (PyData.shownAll xs)
  have f : n * xs.length ≤ n * m := Nat.mul_le_mul (Nat.le_refl _) hl
  rw [Nat.add_mul]
  omega
/-- a value that can be shown, compared -/
structure Vs (n : Nat) (v : PV) : Prop where
  ex : ∃ d, toD v = some d ∧ Shw n d ∧ d.depth ≤ 5 ∧ d.canLay0 = true
theorem Vs.mono {m n : Nat} {v : PV} (h : Vs m v) (k : m ≤ n) : Vs n v := by
  obtain ⟨d, a, b, c⟩ := h.ex
  exact ⟨d, a, b.mono k, c⟩
theorem vs_bl (b : Bool) : Vs 10 (.bl b) := ⟨.bool b, rfl, ⟨by cases b <;> rfl, by cases b <;> decide +kernel, by cases b <;> decide +kernel⟩, by simp [PyData.depth], rfl⟩
theorem vs_non : Vs 10 .non := ⟨.none, rfl, ⟨rfl, by decide +kernel, by decide +kernel⟩, by simp [PyData.depth], rfl⟩
theorem vs_q {q : Rat} (h : Ok q) : Vs 1000 (eQ q) := by
  refine ⟨dQ q, rfl, (shw_tup (n := 301) (m := 2) (xs := [.int q.num, .int (q.den : Int)]) ?_ (Nat.le_refl 2)).mono (by decide), by simp [dQ, PyData.depth, PyData.depthAll], by simp [dQ, PyData.canLay0, PyData.canLayAll0]⟩
  intro y hy
  simp only [List.mem_cons, List.not_mem_nil, or_false] at hy
  rcases hy with rfl | rfl
  · exact shw_int h.n
  · exact shw_int (by have := h.d; omega)
theorem vs_3 {a b c : Rat} (ha : Ok a) (hb : Ok b) (hc : Ok c) : Vs 5000 (.tup [eQ a, eQ b, eQ c]) := by
  refine ⟨d3 a b c, rfl, (shw_tup (n := 1000) (m := 3) (xs := [dQ a, dQ b, dQ c]) ?_ (Nat.le_refl 3)).mono (by decide), by simp [d3, dQ, PyData.depth, PyData.depthAll], by simp [d3, dQ, PyData.canLay0, PyData.canLayAll0]⟩
  intro y hy
  have q : ∀ {x : Rat}, Ok x → Shw 1000 (dQ x) := fun {x} hx => by
    obtain ⟨d, e, s, _⟩ := (vs_q hx).ex
    have e' : toD (eQ x) = some (dQ x) := rfl
    rw [e'] at e
    cases e
    exact s
  simp only [List.mem_cons, List.not_mem_nil, or_false] at hy
  rcases hy with rfl | rfl | rfl
  · exact q ha
  · exact q hb
  · exact q hc
theorem vs_list : ∀ {xs : List PV}, (∀ x ∈ xs, Vs 5000 x) → ∃ ds, toDL xs = some ds ∧ (∀ d ∈ ds, Shw 5000 d) ∧ ds.length = xs.length ∧ PyData.depthAll ds ≤ 5 ∧ PyData.canLayAll0 ds = true
  | [], _ => ⟨[], rfl, (fun d h => by cases h), rfl, Nat.zero_le _, rfl⟩
  | x :: xs, h => by
    obtain ⟨ds, e, s, l, dp, cl⟩ := vs_list (fun y hy => h y (List.mem_cons_of_mem _ hy))
    obtain ⟨d, e1, s1, d1, c1⟩ := (h x List.mem_cons_self).ex
    refine ⟨d :: ds, by rw [toDL, e1, e], fun z hz => ?_, by simp [l], ?_, ?_⟩
    · rcases List.mem_cons.mp hz with rfl | hz
      · exact s1
      · exact s z hz
    · rw [PyData.depthAll]; omega
    · rw [PyData.canLayAll0, c1, cl]; rfl
/-- what repr tells of a list -/
def rpr (xs : List PV) : Str := match toDL xs with
  | some ds => (PyData.list ds).shown
  | none => ""
theorem repr_of {xs : List PV} (h : ∀ x ∈ xs, Vs 5000 x) (l : xs.length ≤ 100) : (∀ v S, toDS v S = (toDL xs).map PyData.list → fRepr [v] S = .ok (.str (rpr xs)) S) ∧ PyData.strOk (rpr xs) = true := by
  obtain ⟨ds, e, s, ln, dp, cl⟩ := vs_list h
  have sh := shw_list (n := 5000) (m := 100) s (by omega)
  have er : rpr xs = (PyData.list ds).shown := by unfold rpr; rw [e]
  have dd : (PyData.list ds).depth ≤ 64 := by simp only [PyData.depth]; omega
  have lm : (PyData.list ds).shown.length ≤ lim := Nat.le_trans sh.l (by decide)
  refine ⟨fun v S ev => ?_, by rw [er]; exact sh.o⟩
  show (match toDS v S with | some d => if d.showable = true ∧ d.depth ≤ 64 ∧ d.shown.length ≤ lim then Res.ok (PV.str d.shown) S else .bad | none => .bad) = _
  rw [ev, e, er]
  simp only [Option.map_some, sh.s, dd, lm, and_self, if_true]
theorem repr_nl {xs : List PV} {S : Sto} (h : ∀ x ∈ xs, Vs 5000 x) (l : xs.length ≤ 100) : fRepr [.nl xs] S = .ok (.str (rpr xs)) S := (repr_of h l).1 _ _ rfl
theorem repr_ref {xs : List PV} {S : Sto} {n : Nat} (h : ∀ x ∈ xs, Vs 5000 x) (l : xs.length ≤ 100) (e : S[n]? = some (SO.lst xs)) : fRepr [.ref n] S = .ok (.str (rpr xs)) S := (repr_of h l).1 _ _ (by
  show (match S[n]? with | some (SO.lst xs) => (toDL xs).map PyData.list | _ => none) = _
  rw [e])
theorem ne_str {t : Str} {S : Sto} (h : PyData.strOk t = true) : fEq true (.str t) (.str t) S = .ok (.bl false) S := by
  have s : SeqAt.shaped (.str t) = true := by
    unfold SeqAt.shaped
    rw [PyData.canLay0, h]
    rfl
  show (if SeqAt.shaped (.str t) = true ∧ SeqAt.shaped (.str t) = true then Res.ok (PV.bl (if true = true then !PyData.eqv (.str t) (.str t) else PyData.eqv (.str t) (.str t))) S else .bad) = _
  rw [if_pos ⟨s, s⟩]
  simp [PyData.eqv]
theorem ne_rpr {xs : List PV} {S : Sto} (h : ∀ x ∈ xs, Vs 5000 x) (l : xs.length ≤ 100) : fEq true (.str (rpr xs)) (.str (rpr xs)) S = .ok (.bl false) S := ne_str (repr_of h l).2
end Ra
end
section
set_option Elab.async false
set_option linter.all false
set_option maxRecDepth 100000
set_option maxHeartbeats 1000000
/-! the numbers of a format as a row: the plain law -/
namespace Ra
open PySem PySem.Spec PyProof.Rows L2 Mi
noncomputable def topR (f : Fm) : Rat := pw f.b (f.k + f.hi)
noncomputable def dnR (f : Fm) (x : Rat) : Rat := ((x / gapR f x).floor : Rat) * gapR f x
noncomputable def upR (f : Fm) (x : Rat) : Rat := ((-((-(x / gapR f x)).floor) : Int) : Rat) * gapR f x
def Ext (f : Fm) (r : Rat) : Prop := IsNum f r ∨ r = topR f ∨ r = -topR f
theorem Ext.neg {f : Fm} {r : Rat} (h : Ext f r) : Ext f (-r) := by
  rcases h with h | h | h
  · exact .inl h.neg
  · exact .inr (.inr (by rw [h]))
  · exact .inr (.inl (by rw [h]; grind))
theorem top_pos {f : Fm} (hf : FmOk f) : 0 < topR f := pw_pos (by have := hf.b0; omega) _
theorem ex_of {f : Fm} {x : Rat} (hf : FmOk f) (l : x.abs < topR f) : IsEx f.b f.k f.lo x (exO f x) ∧ exO f x ≤ f.hi := by
  have hb : 1 ≤ f.b := by have := hf.b0; omega
  have h := exO_of (f := f) (x := x) (E := f.hi) hf.lh l
  exact ⟨h, IsEx.le hb h hf.lh l⟩
theorem abs_ge {x o : Rat} (h : o ≤ x.abs) : x ≤ -o ∨ o ≤ x := by
  rw [abs_is'] at h
  split at h <;> grind
theorem ext_mul {f : Fm} {E j : Int} (hf : FmOk f) (h1 : f.lo ≤ E) (h2 : E ≤ f.hi) (b1 : -((f.b ^ f.k.toNat : Nat) : Int) ≤ j) (b2 : j ≤ ((f.b ^ f.k.toNat : Nat) : Int)) : Ext f ((j : Rat) * pw f.b E) := by
  have hb : 0 < f.b := by have := hf.b0; omega
  have hb1 : 1 ≤ f.b := hb
  obtain ⟨m, hm⟩ := gaps_num hf rfl h1 b1 b2
  have up := abs_int_mul (m := j) (g := pw f.b E) (N := f.b ^ f.k.toNat) (pw_pos hb E) b1 b2
  rw [← pw_k hf] at up
  have tp := pw_mono hb1 (show f.k + E ≤ f.k + f.hi by omega)
  generalize (j : Rat) * pw f.b E = r at hm up
  by_cases c : r.abs ≤ mostR f
  · exact .inl ⟨c, m, hm⟩
  · right
    have le : r.abs ≤ topR f := Rat.le_trans up tp
    by_cases q : r.abs < topR f
    · exfalso
      have ⟨e1, e2⟩ := ex_of hf q
      have l := e1.2.1
      rw [pw_k hf] at l
      have g0 : 0 < gapR f r := gap_pos hf r
      have hm' : r.abs = ((m.natAbs : Nat) : Rat) * gapR f r := by
        have a := abs_mul (m : Rat) (gapR f r)
        rw [← hm] at a
        have ga : (gapR f r).abs = gapR f r := by rw [abs_is']; grind
        have mc : ((m : Rat)).abs = ((m.natAbs : Nat) : Rat) := by
          rw [abs_is', ← Rat.intCast_natCast]
          have z : ((m : Rat) < 0) ↔ m < 0 := Rat.intCast_lt_intCast (a := m) (b := 0)
          by_cases h : m < 0
          · rw [if_pos (z.mpr h), ← Rat.intCast_neg]; congr 1; omega
          · rw [if_neg (fun q => h (z.mp q))]; congr 1; omega
        rw [a, ga, mc]
      have l2 : ((m.natAbs : Nat) : Rat) * gapR f r < ((f.b ^ f.k.toNat : Nat) : Rat) * gapR f r := by rw [← hm']; exact l
      have l3 : m.natAbs < f.b ^ f.k.toNat := Rat.natCast_lt_natCast.mp ((Rat.mul_lt_mul_right g0).mp l2)
      have l4 : ((m.natAbs : Nat) : Rat) * gapR f r ≤ ((f.b ^ f.k.toNat - 1 : Nat) : Rat) * gapR f r := Rat.mul_le_mul_of_nonneg_right (nat_le.mpr (by omega)) (Rat.le_of_lt g0)
      have l5 : ((f.b ^ f.k.toNat - 1 : Nat) : Rat) * gapR f r ≤ mostR f := Rat.mul_le_mul_of_nonneg_left (pw_mono hb1 e2) (nat_le.mpr (Nat.zero_le _))
      grind
    · have e : r.abs = topR f := by grind
      rw [abs_is'] at e
      split at e
      · right; grind
      · left; exact e
theorem num_mul {f : Fm} {r : Rat} {E : Int} (hf : FmOk f) (h : IsNum f r) (l : E ≤ exO f r) : ∃ j : Int, r = (j : Rat) * pw f.b E := by
  have hb : 0 < f.b := by have := hf.b0; omega
  obtain ⟨_, m, hm⟩ := h
  refine ⟨m * ((f.b ^ (exO f r - E).toNat : Nat) : Int), ?_⟩
  rw [Rat.intCast_mul, Rat.intCast_natCast, Rat.mul_assoc, Rat.mul_comm (((f.b ^ (exO f r - E).toNat : Nat) : Rat)), ← pw_sub hb l]
  exact hm
theorem num_lt {f : Fm} {r : Rat} (hf : FmOk f) (h : IsNum f r) : r.abs < topR f := by
  have := most_lt hf
  have := h.le
  unfold topR
  grind
theorem num_lo {f : Fm} {r : Rat} (hf : FmOk f) (h : IsNum f r) : ∃ j : Int, r = (j : Rat) * pw f.b f.lo := num_mul hf h (ex_of hf (num_lt hf h)).1.1
/-- a multiple of the gap at most x is at most the greatest one -/
theorem mul_dn {x g : Rat} {j : Int} (hg : 0 < g) (h : (j : Rat) * g ≤ x) : (j : Rat) * g ≤ ((x / g).floor : Rat) * g := by
  refine Rat.mul_le_mul_of_nonneg_right (int_le.mpr (Rat.le_floor_iff.mpr ?_)) (Rat.le_of_lt hg)
  have i := Rat.le_of_lt (Rat.inv_pos.mpr hg)
  have := Rat.mul_le_mul_of_nonneg_right h i
  have g0 : g ≠ 0 := by grind
  have e : ((j : Rat) * g) * g⁻¹ = (j : Rat) := by
    generalize (j : Rat) = t
    clear h i this
    grind
  rw [Rat.div_def]
  rw [e] at this
  exact this
theorem below {f : Fm} {x r : Rat} (hf : FmOk f) (l : x.abs < topR f) (h : Ext f r) (le : r ≤ x) : r ≤ dnR f x := by
  have hb : 0 < f.b := by have := hf.b0; omega
  have hb1 : 1 ≤ f.b := hb
  have ⟨ex, eh⟩ := ex_of hf l
  have g0 := gap_pos hf x
  have sub : ∀ (j : Int) (s : Rat), s = (j : Rat) * gapR f x → s ≤ x → s ≤ dnR f x := fun j s e q => by
    rw [e] at q ⊢
    exact mul_dn g0 q
  have hl := (abs_le (x := x) (o := x.abs)).mp Rat.le_refl
  rcases h with h | h | h
  · by_cases q : exO f x ≤ exO f r
    · obtain ⟨j, hj⟩ := num_mul hf h q
      exact sub j r hj le
    · have er := (ex_of hf (num_lt hf h)).1
      have lr := er.2.1
      have m := pw_mono hb1 (show f.k + exO f r ≤ f.k + (exO f x - 1) by omega)
      rcases ex.2.2 with z | z
      · have := er.1; omega
      · have hr := (abs_le (x := r) (o := r.abs)).mp Rat.le_refl
        rcases abs_ge z with z | z
        · grind
        · have e : pw f.b (f.k + (exO f x - 1)) = (((f.b ^ (f.k - 1).toNat : Nat) : Int) : Rat) * gapR f x := by
            unfold gapR
            rw [Rat.intCast_natCast, Rat.mul_comm, ← pw_add hb]
            congr 1
            have := hf.k0
            omega
          have := sub _ _ e z
          grind
  · grind
  · have e : -topR f = ((-((f.b ^ (f.k + f.hi - exO f x).toNat : Nat) : Int) : Int) : Rat) * gapR f x := by
      unfold topR gapR
      rw [Rat.intCast_neg, Rat.intCast_natCast, Rat.neg_mul, Rat.mul_comm, ← pw_add hb]
      congr 2
      have := hf.k0
      omega
    exact sub _ r (by rw [h, e]) le
theorem gap_neg (f : Fm) (x : Rat) : gapR f (-x) = gapR f x := gap_abs (abs_neg x)
theorem up_dn (f : Fm) (x : Rat) : upR f x = -dnR f (-x) := by
  unfold upR dnR
  rw [gap_neg, Rat.intCast_neg, Rat.neg_mul]
  have : -(x / gapR f x) = -x / gapR f x := by rw [Rat.div_def, Rat.div_def, Rat.neg_mul]
  rw [this]
theorem above {f : Fm} {x r : Rat} (hf : FmOk f) (l : x.abs < topR f) (h : Ext f r) (le : x ≤ r) : upR f x ≤ r := by
  have := below hf (x := -x) (r := -r) (by rw [abs_neg]; exact l) h.neg (by grind)
  rw [up_dn]
  grind
theorem dn_le {f : Fm} (x : Rat) (hf : FmOk f) : dnR f x ≤ x := by
  have g0 := gap_pos hf x
  have g : gapR f x ≠ 0 := by grind
  have := Rat.mul_le_mul_of_nonneg_right (Rat.floor_le (x / gapR f x)) (Rat.le_of_lt g0)
  unfold dnR
  have e : x / gapR f x * gapR f x = x := by rw [Rat.div_def]; grind
  rw [e] at this
  exact this
theorem le_up {f : Fm} (x : Rat) (hf : FmOk f) : x ≤ upR f x := by
  have := dn_le (-x) hf
  rw [up_dn]
  grind
theorem rnd_ext {f : Fm} {x : Rat} (w : Wy) (hf : FmOk f) (l : x.abs < topR f) : Ext f ((rnd w (x / gapR f x) : Int) * gapR f x) := by
  have ⟨ex, eh⟩ := ex_of hf l
  have l := ex.2.1
  rw [pw_k hf] at l
  have b := rnd_abs (w := w) (gap_pos hf x) (Rat.le_of_lt l)
  exact ext_mul hf ex.1 eh b.1 b.2
theorem dn_ext {f : Fm} {x : Rat} (hf : FmOk f) (l : x.abs < topR f) : Ext f (dnR f x) := rnd_ext .down hf l
theorem up_ext {f : Fm} {x : Rat} (hf : FmOk f) (l : x.abs < topR f) : Ext f (upR f x) := rnd_ext .up hf l
/-! rounding, told by the neighbours -/
noncomputable def rndR (f : Fm) (w : Wy) (x : Rat) : Rat := (rnd w (x / gapR f x) : Int) * gapR f x
theorem rnd_dn (f : Fm) (x : Rat) : rndR f .down x = dnR f x := rfl
theorem rnd_up (f : Fm) (x : Rat) : rndR f .up x = upR f x := rfl
theorem top_no {f : Fm} (hf : FmOk f) : ¬ IsNum f (topR f) ∧ ¬ IsNum f (-topR f) := by
  have t := top_pos hf
  constructor
  · intro h
    have := num_lt hf h
    rw [abs_is'] at this
    grind
  · intro h
    have := num_lt hf h
    rw [abs_neg, abs_is'] at this
    grind
theorem roundR_is {f : Fm} {w : Wy} {x : Rat} (hf : FmOk f) (l : x.abs < topR f) : roundR f w x = if rndR f w x = topR f ∨ rndR f w x = -topR f then none else some (rndR f w x) := by
  have e := rnd_ext w hf l
  have t := top_no hf
  have tp := top_pos hf
  have ml := most_lt hf
  unfold roundR
  show (if (rndR f w x).abs ≤ mostR f then some (rndR f w x) else none) = _
  have e : Ext f (rndR f w x) := e
  generalize rndR f w x = r at e
  have ml : mostR f < topR f := ml
  rcases e with e | e | e
  · rw [if_pos e.le, if_neg]
    rintro (q | q)
    · exact t.1 (q ▸ e)
    · exact t.2 (q ▸ e)
  · rw [if_neg, if_pos (.inl e)]
    rw [e, abs_is']
    grind
  · rw [if_neg, if_pos (.inr e)]
    rw [e, abs_neg, abs_is']
    grind
theorem round_far {f : Fm} {w : Wy} {x : Rat} (hf : FmOk f) (hx : Ok x) (l : topR f ≤ x.abs) : roundR f w x = none := by
  have hb : 0 < f.b := by have := hf.b0; omega
  have hb1 : 1 ≤ f.b := hb
  have ex := exO_is hf hx
  have eh : f.hi + 1 ≤ exO f x := by
    by_cases q : f.hi + 1 ≤ exO f x
    · exact q
    · have m := pw_mono hb1 (show f.k + exO f x ≤ f.k + f.hi by omega)
      have := ex.2.1
      unfold topR at l
      grind
  have g0 := gap_pos hf x
  have gi := Rat.le_of_lt (Rat.inv_pos.mpr g0)
  have z : pw f.b (f.k + (exO f x - 1)) ≤ x.abs := by
    rcases ex.2.2 with z | z
    · have := hf.lh; omega
    · exact z
  have e : pw f.b (f.k + (exO f x - 1)) = (((f.b ^ (f.k - 1).toNat : Nat) : Int) : Rat) * gapR f x := by
    unfold gapR
    rw [Rat.intCast_natCast, Rat.mul_comm, ← pw_add hb]
    congr 1
    have := hf.k0
    omega
  have tl : topR f ≤ pw f.b (f.k + (exO f x - 1)) := pw_mono hb1 (by omega)
  have ml : mostR f < topR f := most_lt hf
  generalize hN : (((f.b ^ (f.k - 1).toNat : Nat) : Int)) = N at e
  have far : topR f ≤ (rndR f w x).abs := by
    refine Rat.le_trans tl ?_
    rw [e]
    have ne : gapR f x ≠ 0 := by grind
    have can : ∀ t : Rat, (t * gapR f x) * (gapR f x)⁻¹ = t := fun t => by
      clear e z tl
      generalize gapR f x = g at ne
      grind
    rcases abs_ge z with q | q
    · have r1 : rnd w (x / gapR f x) ≤ -N := by
        refine rnd_le ?_
        rw [Rat.div_def, Rat.intCast_neg]
        rw [e, ← Rat.neg_mul] at q
        have := Rat.mul_le_mul_of_nonneg_right q gi
        rw [can] at this
        exact this
      have r2 : rndR f w x ≤ -((N : Rat) * gapR f x) := by
        have := Rat.mul_le_mul_of_nonneg_right (int_le.mpr r1) (Rat.le_of_lt g0)
        rw [Rat.intCast_neg, Rat.neg_mul] at this
        exact this
      rw [abs_is']
      split <;> grind
    · have r1 : N ≤ rnd w (x / gapR f x) := by
        refine ge_rnd ?_
        rw [Rat.div_def]
        rw [e] at q
        have := Rat.mul_le_mul_of_nonneg_right q gi
        rw [can] at this
        exact this
      have r2 : (N : Rat) * gapR f x ≤ rndR f w x := Rat.mul_le_mul_of_nonneg_right (int_le.mpr r1) (Rat.le_of_lt g0)
      rw [abs_is']
      split <;> grind
  unfold roundR
  rw [if_neg]
  show ¬ (rndR f w x).abs ≤ mostR f
  grind
/-- what is nearest -/
theorem rnd_zero {f : Fm} {x : Rat} (hf : FmOk f) : rndR f .zero x = if 0 ≤ x then dnR f x else upR f x := by
  have g0 := gap_pos hf x
  have z : 0 ≤ x / gapR f x ↔ 0 ≤ x := by
    have gi := Rat.inv_pos.mpr g0
    have e : x / gapR f x * gapR f x = x := by
      have : gapR f x ≠ 0 := by grind
      rw [Rat.div_def]; grind
    constructor
    · intro h
      have := Rat.mul_nonneg h (Rat.le_of_lt g0)
      rwa [e] at this
    · intro h
      rw [Rat.div_def]
      exact Rat.mul_nonneg h (Rat.le_of_lt gi)
  unfold rndR dnR upR
  simp only [rnd, z]
  split <;> rfl
theorem rnd_nearE {f : Fm} {x : Rat} (hf : FmOk f) (ne : dnR f x ≠ upR f x) :
    upR f x = dnR f x + gapR f x ∧ rndR f .near x = if x - dnR f x = upR f x - x then (if (x / gapR f x).floor % 2 = 0 then dnR f x else upR f x) else if x - dnR f x ≤ upR f x - x then dnR f x else upR f x := by
  have g0 := gap_pos hf x
  have gn : gapR f x ≠ 0 := by grind
  have e : x = x / gapR f x * gapR f x := by rw [Rat.div_def]; grind
  have h1 := Rat.floor_le (x / gapR f x)
  have h2 := Rat.lt_floor_add_one (x / gapR f x)
  have h3 := Rat.floor_le (-(x / gapR f x))
  have h4 := Rat.lt_floor_add_one (-(x / gapR f x))
  rw [cast_add1] at h2 h4
  have ne' : -((-(x / gapR f x)).floor) ≠ (x / gapR f x).floor := fun z => ne (by unfold dnR upR; rw [z])
  have hu : -((-(x / gapR f x)).floor) = (x / gapR f x).floor + 1 := by
    have a1 : ((x / gapR f x).floor : Rat) ≤ ((-((-(x / gapR f x)).floor) : Int) : Rat) := by rw [Rat.intCast_neg]; grind
    have a2 : ((-((-(x / gapR f x)).floor) : Int) : Rat) < (((x / gapR f x).floor + 2 : Int) : Rat) := by
      rw [Rat.intCast_neg, Rat.intCast_add]
      have : ((2 : Int) : Rat) = 2 := rfl
      rw [this]
      grind
    have b1 := int_le.mp a1
    have b2 := Rat.intCast_lt_intCast.mp a2
    omega
  have eu : upR f x = dnR f x + gapR f x := by
    unfold upR dnR
    rw [hu, cast_add1]
    grind
  refine ⟨eu, ?_⟩
  have c1 : (x - dnR f x = upR f x - x) ↔ 2 * (x / gapR f x - ((x / gapR f x).floor : Rat)) = 1 := by
    rw [eu]
    unfold dnR
    generalize gapR f x = g at *
    generalize x / g = q at *
    generalize (q.floor : Rat) = n at *
    subst e
    constructor
    · intro h
      have : (2 * (q - n) - 1) * g = 0 := by grind
      grind
    · intro h; grind
  have c2 : (x - dnR f x ≤ upR f x - x) ↔ 2 * (x / gapR f x - ((x / gapR f x).floor : Rat)) ≤ 1 := by
    rw [eu]
    unfold dnR
    generalize gapR f x = g at *
    generalize x / g = q at *
    generalize (q.floor : Rat) = n at *
    subst e
    have e1 : (2 * (q - n) - 1) * g = (q * g - n * g) - (n * g + g - q * g) := by grind
    constructor
    · intro h
      by_cases c : 2 * (q - n) ≤ 1
      · exact c
      · have := Rat.mul_pos (show 0 < 2 * (q - n) - 1 by grind) g0
        grind
    · intro h
      have := Rat.mul_nonneg (show 0 ≤ 1 - 2 * (q - n) by grind) (Rat.le_of_lt g0)
      have e2 : (1 - 2 * (q - n)) * g = (n * g + g - q * g) - (q * g - n * g) := by grind
      grind
  simp only [c1, c2]
  have e3 : upR f x = (((x / gapR f x).floor + 1 : Int) : Rat) * gapR f x := by unfold upR; rw [hu]
  unfold rndR
  simp only [rnd, nearI]
  by_cases q1 : 2 * (x / gapR f x - ((x / gapR f x).floor : Rat)) = 1
  · rw [if_pos q1, if_pos q1]
    split
    · rfl
    · exact e3.symm
  · rw [if_neg q1, if_neg q1]
    by_cases q2 : 2 * (x / gapR f x - ((x / gapR f x).floor : Rat)) ≤ 1
    · rw [if_pos q2, if_pos (by grind)]
      rfl
    · rw [if_neg q2, if_neg (by grind)]
      exact e3.symm
theorem near_same {f : Fm} {x : Rat} (hf : FmOk f) (e : dnR f x = upR f x) : rndR f .near x = dnR f x := by
  have a := dn_le x hf
  have b := le_up x hf
  have xe : x = dnR f x := by grind
  have g0 := gap_pos hf x
  have gn : gapR f x ≠ 0 := by grind
  have q : x / gapR f x = ((x / gapR f x).floor : Rat) := by
    have ex : x = x / gapR f x * gapR f x := by rw [Rat.div_def]; grind
    have xd : x = ((x / gapR f x).floor : Rat) * gapR f x := xe
    generalize ((x / gapR f x).floor : Rat) = t at xd ⊢
    generalize x / gapR f x = u at ex ⊢
    have : (u - t) * gapR f x = 0 := by grind
    generalize gapR f x = g at this gn
    clear ex xd xe e a b g0
    grind
  unfold rndR dnR
  congr 2
  have := rnd_int .near (x / gapR f x).floor
  rw [← q] at this
  exact this
end Ra
end
section
set_option Elab.async false
set_option linter.all false
set_option maxRecDepth 100000
set_option maxHeartbeats 1000000
/-! rows; monotony; neighbours -/
namespace Ra
open PySem PySem.Spec PyProof.Rows L2 Mi
theorem last_le {x d : Rat} : ∀ {L : List Rat}, L.Pairwise (· < ·) → d ∈ L → d ≤ x → (∀ r ∈ L, r ≤ x → r ≤ d) → (L.filter fun r => decide (r ≤ x)).getLast? = some d := by
  intro L
  induction L with
  | nil => intro _ h; cases h
  | cons a L ih =>
    intro hp hd hx hm
    obtain ⟨ha, hp⟩ := List.pairwise_cons.mp hp
    by_cases e : d = a
    · subst e
      have : L.filter (fun r => decide (r ≤ x)) = [] := by
        rw [List.filter_eq_nil_iff]
        intro r hr
        have l := ha r hr
        have := hm r (List.mem_cons_of_mem _ hr)
        simp only [decide_eq_true_eq]
        intro q
        have := this q
        grind
      rw [List.filter_cons_of_pos (by simpa using hx), this]
      rfl
    · have hd : d ∈ L := by
        rcases List.mem_cons.mp hd with z | z
        · exact absurd z e
        · exact z
      have ih := ih hp hd hx fun r hr => hm r (List.mem_cons_of_mem _ hr)
      have l := ha d hd
      rw [List.filter_cons_of_pos (by simp only [decide_eq_true_eq]; grind), List.getLast?_cons, ih]
      rfl
theorem first_ge {x d : Rat} : ∀ {L : List Rat}, L.Pairwise (· < ·) → d ∈ L → x ≤ d → (∀ r ∈ L, x ≤ r → d ≤ r) → (L.filter fun r => decide (x ≤ r)).head? = some d := by
  intro L
  induction L with
  | nil => intro _ h; cases h
  | cons a L ih =>
    intro hp hd hx hm
    obtain ⟨ha, hp⟩ := List.pairwise_cons.mp hp
    by_cases e : d = a
    · subst e
      rw [List.filter_cons_of_pos (by simpa using hx)]
      rfl
    · have hd : d ∈ L := by
        rcases List.mem_cons.mp hd with z | z
        · exact absurd z e
        · exact z
      have l := ha d hd
      have ih := ih hp hd hx fun r hr => hm r (List.mem_cons_of_mem _ hr)
      have n : ¬ x ≤ a := fun q => by
        have := hm a List.mem_cons_self q
        grind
      rw [List.filter_cons_of_neg (by simpa using n)]
      exact ih
structure Row (f : Fm) (xs : List Rat) : Prop where
  so : xs.Pairwise (· < ·)
  mem : ∀ q, q ∈ xs ↔ IsNum f q
noncomputable def every (f : Fm) (xs : List Rat) : List Rat := [-topR f] ++ xs ++ [topR f]
theorem Row.ext {f : Fm} {xs : List Rat} (h : Row f xs) (q : Rat) : q ∈ every f xs ↔ Ext f q := by
  unfold every Ext
  rw [← h.mem]
  simp
  grind
theorem num_btw {f : Fm} {r : Rat} (hf : FmOk f) (h : IsNum f r) : -topR f < r ∧ r < topR f := by
  have := num_lt hf h
  have a := (abs_le (x := r) (o := r.abs)).mp Rat.le_refl
  grind
theorem Row.every {f : Fm} {xs : List Rat} (hf : FmOk f) (h : Row f xs) : (every f xs).Pairwise (· < ·) := by
  have t := top_pos hf
  unfold Ra.every
  rw [List.pairwise_append, List.pairwise_append]
  refine ⟨⟨by simp, h.so, fun a ha b hb => ?_⟩, by simp, fun a ha b hb => ?_⟩
  · rw [List.mem_singleton.mp ha]
    exact (num_btw hf ((h.mem b).mp hb)).1
  · rw [List.mem_singleton.mp hb]
    rcases List.mem_append.mp ha with q | q
    · rw [List.mem_singleton.mp q]; grind
    · exact (num_btw hf ((h.mem a).mp q)).2
theorem Row.below {f : Fm} {xs : List Rat} {x : Rat} (hf : FmOk f) (h : Row f xs) (l : x.abs < topR f) : ((Ra.every f xs).filter fun r => decide (r ≤ x)).getLast? = some (dnR f x) :=
  last_le (h.every hf) ((h.ext _).mpr (dn_ext hf l)) (dn_le x hf) fun r hr q => Ra.below hf l ((h.ext _).mp hr) q
theorem Row.above {f : Fm} {xs : List Rat} {x : Rat} (hf : FmOk f) (h : Row f xs) (l : x.abs < topR f) : ((Ra.every f xs).filter fun r => decide (x ≤ r)).head? = some (upR f x) :=
  first_ge (h.every hf) ((h.ext _).mpr (up_ext hf l)) (le_up x hf) fun r hr q => Ra.above hf l ((h.ext _).mp hr) q
theorem most_num {f : Fm} (hf : FmOk f) : IsNum f (mostR f) := by
  have hb : 0 < f.b := by have := hf.b0; omega
  have n := most_nn f hf
  have a : (mostR f).abs = mostR f := by rw [abs_is']; grind
  refine ⟨by rw [a]; exact Rat.le_refl, num_of (m := ((f.b ^ f.k.toNat - 1 : Nat) : Int)) (E := f.hi) hf (by rw [Rat.intCast_natCast]; rfl) hf.lh ?_⟩
  rw [a]
  exact most_lt hf
theorem le_last {L : List Rat} (h : L.Pairwise (· < ·)) {d : Rat} (hd : d ∈ L) (m : ∀ r ∈ L, r ≤ d) : L.getLast? = some d := by
  have := last_le h hd Rat.le_refl fun r hr _ => m r hr
  rwa [List.filter_eq_self.mpr fun r hr => by simpa using m r hr] at this
theorem Row.last {f : Fm} {xs : List Rat} (hf : FmOk f) (h : Row f xs) : xs.getLast? = some (mostR f) :=
  le_last h.so ((h.mem _).mpr (most_num hf)) fun r hr => by
    have := ((h.mem r).mp hr).le
    have a := (abs_le (x := r) (o := r.abs)).mp Rat.le_refl
    grind
theorem zero_num {f : Fm} (hf : FmOk f) : IsNum f 0 := by
  have n := most_nn f hf
  refine ⟨by rw [abs_is']; grind, 0, ?_⟩
  have : ((0 : Int) : Rat) = 0 := rfl
  rw [this, Rat.zero_mul]
/-- order is kept -/
theorem rnd_mono {f : Fm} {w : Wy} {x y : Rat} (hf : FmOk f) (lx : x.abs < topR f) (ly : y.abs < topR f) (le : x ≤ y) : rndR f w x ≤ rndR f w y := by
  have dx := dn_le x hf
  have dy := dn_le y hf
  have ux := le_up x hf
  have uy := le_up y hf
  have exd := dn_ext hf lx
  have exu := up_ext hf lx
  have eyd := dn_ext hf ly
  have eyu := up_ext hf ly
  have d1 : dnR f x ≤ dnR f y := below hf ly exd (by grind)
  have u1 : upR f x ≤ upR f y := above hf lx eyu (by grind)
  cases w with
  | down => exact d1
  | up => exact u1
  | zero =>
    rw [rnd_zero hf, rnd_zero hf]
    have e0 : Ext f 0 := .inl (zero_num hf)
    by_cases hx : 0 ≤ x
    · rw [if_pos hx, if_pos (by grind)]; exact d1
    · rw [if_neg hx]
      by_cases hy : 0 ≤ y
      · rw [if_pos hy]
        have a := above hf lx e0 (by grind)
        have b := below hf ly e0 hy
        grind
      · rw [if_neg hy]; exact u1
  | near =>
    have nr : ∀ z, z.abs < topR f → (rndR f .near z = dnR f z ∧ z - dnR f z ≤ upR f z - z) ∨ (rndR f .near z = upR f z ∧ upR f z - z ≤ z - dnR f z) := fun z lz => by
      by_cases e : dnR f z = upR f z
      · left
        have a := dn_le z hf
        have b := le_up z hf
        exact ⟨near_same hf e, by grind⟩
      · have ⟨_, h⟩ := rnd_nearE hf e
        rw [h]
        by_cases c1 : z - dnR f z = upR f z - z
        · rw [if_pos c1]
          split
          · exact .inl ⟨rfl, by grind⟩
          · exact .inr ⟨rfl, by grind⟩
        · rw [if_neg c1]
          by_cases c2 : z - dnR f z ≤ upR f z - z
          · rw [if_pos c2]; exact .inl ⟨rfl, c2⟩
          · rw [if_neg c2]; exact .inr ⟨rfl, by grind⟩
    by_cases xy : x = y
    · rw [xy]; exact Rat.le_refl
    · by_cases sep : upR f x ≤ y
      · have s := below hf ly exu sep
        rcases nr x lx with ⟨a, _⟩ | ⟨a, _⟩ <;> rcases nr y ly with ⟨b, _⟩ | ⟨b, _⟩ <;> rw [a, b] <;> grind
      · have q1 : dnR f y ≤ x := by
          by_cases q : dnR f y ≤ x
          · exact q
          · have := above hf lx eyd (by grind)
            grind
        have d2 := below hf lx eyd q1
        have u2 := above hf ly exu (by grind)
        have de : dnR f x = dnR f y := by grind
        have ue : upR f x = upR f y := by grind
        rcases nr x lx with ⟨a, a2⟩ | ⟨a, a2⟩ <;> rcases nr y ly with ⟨b, b2⟩ | ⟨b, b2⟩ <;> rw [a, b] <;> grind
theorem round_mono {f : Fm} {w : Wy} {x y r s : Rat} (hf : FmOk f) (ox : Ok x) (oy : Ok y) (le : x ≤ y) (hr : roundR f w x = some r) (hs : roundR f w y = some s) : r ≤ s := by
  have near : ∀ {z t : Rat}, Ok z → roundR f w z = some t → z.abs < topR f := fun {z t} o h => by
    by_cases q : z.abs < topR f
    · exact q
    · rw [round_far hf o (by grind)] at h; cases h
  have lx := near ox hr
  have ly := near oy hs
  have m := rnd_mono (w := w) hf lx ly le
  rw [roundR_is hf lx] at hr
  rw [roundR_is hf ly] at hs
  split at hr
  · cases hr
  · split at hs
    · cases hs
    · injection hr with hr
      injection hs with hs
      rw [← hr, ← hs]
      exact m
/-- two numbers are at least the least one apart -/
theorem num_gap {f : Fm} {r s : Rat} (hf : FmOk f) (hr : IsNum f r) (hs : IsNum f s) (l : r < s) : r + pw f.b f.lo ≤ s := by
  have p := pw_pos (b := f.b) (by have := hf.b0; omega) f.lo
  obtain ⟨i, rfl⟩ := num_lo hf hr
  obtain ⟨j, rfl⟩ := num_lo hf hs
  have l2 : i < j := Rat.intCast_lt_intCast.mp ((Rat.mul_lt_mul_right p).mp l)
  have := Rat.mul_le_mul_of_nonneg_right (int_le.mpr (show i + 1 ≤ j by omega)) (Rat.le_of_lt p)
  rw [cast_add1] at this
  grind
theorem pw_top {f : Fm} (hf : FmOk f) : mostR f + pw f.b f.lo ≤ topR f := by
  have hb : 0 < f.b := by have := hf.b0; omega
  have h1 := pw_mono (b := f.b) hb hf.lh
  have e : topR f = mostR f + pw f.b f.hi := by
    unfold topR mostR
    rw [pw_k hf]
    have : ((f.b ^ f.k.toNat : Nat) : Rat) = ((f.b ^ f.k.toNat - 1 : Nat) : Rat) + 1 := by
      have p := Nat.pow_pos (n := f.k.toNat) hb
      have : f.b ^ f.k.toNat = (f.b ^ f.k.toNat - 1) + 1 := by omega
      conv => lhs; rw [this]
      rw [Rat.natCast_add]
      rfl
    rw [this]
    grind
  grind
theorem step_near {f : Fm} {x y : Rat} (hf : FmOk f) (h : IsNum f x) (l1 : x - pw f.b f.lo < y) (l2 : y < x + pw f.b f.lo) : y.abs < topR f := by
  have t := pw_top hf
  have a := (abs_le (x := x) (o := mostR f)).mp h.le
  rw [abs_is']
  split <;> grind
/-- the next one up -/
theorem Row.up {f : Fm} {xs : List Rat} {x y : Rat} {i : Nat} (hf : FmOk f) (h : Row f xs) (e : xs[i]? = some x) (l1 : x < y) (l2 : y < x + pw f.b f.lo) : roundR f .up y = xs[i + 1]? := by
  have nx : IsNum f x := (h.mem x).mp (List.mem_of_getElem? e)
  have p := pw_pos (b := f.b) (by have := hf.b0; omega) f.lo
  have ly : y.abs < topR f := step_near hf nx (by grind) l2
  have eu := up_ext hf ly
  have uy := le_up y hf
  have ml : mostR f < topR f := most_lt hf
  have am := (abs_le (x := x) (o := mostR f)).mp nx.le
  rw [roundR_is hf ly, rnd_up]
  have so := List.pairwise_iff_getElem.mp h.so
  obtain ⟨hi, ei⟩ := List.getElem?_eq_some_iff.mp e
  by_cases hl : i + 1 < xs.length
  · rw [List.getElem?_eq_getElem hl]
    have s1 : x < xs[i + 1] := by rw [← ei]; exact so i (i + 1) hi hl (by omega)
    have ns : IsNum f xs[i + 1] := (h.mem _).mp (List.getElem_mem hl)
    have g := num_gap hf nx ns s1
    have le := Ra.above hf ly (.inl ns) (by grind)
    have bs := num_btw hf ns
    have nu : IsNum f (upR f y) := by
      rcases eu with q | q | q
      · exact q
      · grind
      · grind
    obtain ⟨j, hj, ej⟩ := List.getElem_of_mem ((h.mem _).mpr nu)
    have ge : xs[i + 1] ≤ upR f y := by
      rcases Nat.lt_trichotomy j (i + 1) with q | q | q
      · exfalso
        rcases Nat.lt_trichotomy j i with z | z | z
        · have := so j i hj hi z
          grind
        · subst z; grind
        · omega
      · subst q; grind
      · have := so (i + 1) j hl hj q
        grind
    have eq : upR f y = xs[i + 1] := by grind
    rw [if_neg, eq]
    rw [eq]
    grind
  · rw [List.getElem?_eq_none (by omega)]
    rcases eu with q | q | q
    · exfalso
      obtain ⟨j, hj, ej⟩ := List.getElem_of_mem ((h.mem _).mpr q)
      rcases Nat.lt_trichotomy j i with z | z | z
      · have := so j i hj hi z
        grind
      · subst z; grind
      · omega
    · rw [if_pos (.inl q)]
    · rw [if_pos (.inr q)]
theorem Row.down {f : Fm} {xs : List Rat} {x y : Rat} {i : Nat} (hf : FmOk f) (h : Row f xs) (e : xs[i]? = some x) (l1 : y < x) (l2 : x - pw f.b f.lo < y) : roundR f .down y = if 0 < i then xs[i - 1]? else none := by
  have nx : IsNum f x := (h.mem x).mp (List.mem_of_getElem? e)
  have p := pw_pos (b := f.b) (by have := hf.b0; omega) f.lo
  have ly : y.abs < topR f := step_near hf nx l2 (by grind)
  have eu := dn_ext hf ly
  have uy := dn_le y hf
  have ml : mostR f < topR f := most_lt hf
  have am := (abs_le (x := x) (o := mostR f)).mp nx.le
  rw [roundR_is hf ly, rnd_dn]
  have so := List.pairwise_iff_getElem.mp h.so
  obtain ⟨hi, ei⟩ := List.getElem?_eq_some_iff.mp e
  by_cases hl : 0 < i
  · have hm : i - 1 < xs.length := by omega
    rw [if_pos hl, List.getElem?_eq_getElem hm]
    have s1 : xs[i - 1] < x := by rw [← ei]; exact so (i - 1) i hm hi (by omega)
    have ns : IsNum f xs[i - 1] := (h.mem _).mp (List.getElem_mem hm)
    have g := num_gap hf ns nx s1
    have le := Ra.below hf ly (.inl ns) (by grind)
    have bs := num_btw hf ns
    have nu : IsNum f (dnR f y) := by
      rcases eu with q | q | q
      · exact q
      · grind
      · grind
    obtain ⟨j, hj, ej⟩ := List.getElem_of_mem ((h.mem _).mpr nu)
    have ge : dnR f y ≤ xs[i - 1] := by
      rcases Nat.lt_trichotomy j (i - 1) with q | q | q
      · have := so j (i - 1) hj hm q
        grind
      · subst q; grind
      · exfalso
        rcases Nat.lt_trichotomy j i with z | z | z
        · omega
        · subst z; grind
        · have := so i j hi hj z
          grind
    have eq : dnR f y = xs[i - 1] := by grind
    rw [if_neg, eq]
    rw [eq]
    grind
  · rw [if_neg hl]
    rcases eu with q | q | q
    · exfalso
      obtain ⟨j, hj, ej⟩ := List.getElem_of_mem ((h.mem _).mpr q)
      rcases Nat.lt_trichotomy j i with z | z | z
      · omega
      · subst z; grind
      · have := so i j hi hj z
        grind
    · rw [if_pos (.inl q)]
    · rw [if_pos (.inr q)]
end Ra
end
section
set_option Elab.async false
set_option linter.all false
set_option maxRecDepth 100000
set_option maxHeartbeats 1000000
/-! the row, from the numbers laid one by one -/
namespace Ra
open PySem PySem.Spec PyProof.Rows L2 Mi
def Laid (f : Fm) (q : Rat) : Prop := q = 0 ∨ ∃ (e : Int) (m : Nat), f.lo ≤ e ∧ e ≤ f.hi ∧ 1 ≤ m ∧ m < f.b ^ f.k.toNat ∧ (q = (m : Rat) * pw f.b e ∨ q = -((m : Rat) * pw f.b e))
theorem laid_num {f : Fm} {e : Int} {m : Nat} (hf : FmOk f) (h1 : f.lo ≤ e) (h2 : e ≤ f.hi) (h3 : m < f.b ^ f.k.toNat) : IsNum f ((m : Rat) * pw f.b e) := by
  have hb : 0 < f.b := by have := hf.b0; omega
  have p := pw_pos hb e
  have nn : 0 ≤ (m : Rat) * pw f.b e := Rat.mul_nonneg (nat_le.mpr (Nat.zero_le _)) (Rat.le_of_lt p)
  have a : ((m : Rat) * pw f.b e).abs = (m : Rat) * pw f.b e := by rw [abs_is']; grind
  have l1 : (m : Rat) * pw f.b e ≤ ((f.b ^ f.k.toNat - 1 : Nat) : Rat) * pw f.b e := Rat.mul_le_mul_of_nonneg_right (nat_le.mpr (by omega)) (Rat.le_of_lt p)
  have l2 : ((f.b ^ f.k.toNat - 1 : Nat) : Rat) * pw f.b e ≤ mostR f := Rat.mul_le_mul_of_nonneg_left (pw_mono hb h2) (nat_le.mpr (Nat.zero_le _))
  refine ⟨by rw [a]; exact Rat.le_trans l1 l2, num_of (m := (m : Int)) (E := e) hf (by rw [Rat.intCast_natCast]) h1 ?_⟩
  rw [a, pw_k hf, Rat.mul_comm, Rat.mul_comm (((f.b ^ f.k.toNat : Nat) : Rat))]
  exact Rat.mul_lt_mul_of_pos_left (Rat.natCast_lt_natCast.mpr h3) p
theorem laid_is {f : Fm} (hf : FmOk f) (q : Rat) : Laid f q ↔ IsNum f q := by
  have hb : 0 < f.b := by have := hf.b0; omega
  constructor
  · rintro (h | ⟨e, m, h1, h2, h3, h4, h5 | h5⟩)
    · rw [h]; exact zero_num hf
    · rw [h5]; exact laid_num hf h1 h2 h4
    · rw [h5]; exact (laid_num hf h1 h2 h4).neg
  · intro h
    have ⟨ex, eh⟩ := ex_of hf (num_lt hf h)
    obtain ⟨l, m, hm⟩ := h
    have g0 : 0 < gapR f q := gap_pos hf q
    by_cases z : m = 0
    · left
      rw [hm, z]
      have : ((0 : Int) : Rat) = 0 := rfl
      rw [this, Rat.zero_mul]
    · right
      have lt := ex.2.1
      rw [pw_k hf] at lt
      have lt : q.abs < ((f.b ^ f.k.toNat : Nat) : Rat) * gapR f q := lt
      have ab : ∀ n : Nat, (n : Rat) * gapR f q < ((f.b ^ f.k.toNat : Nat) : Rat) * gapR f q → n < f.b ^ f.k.toNat := fun n h => Rat.natCast_lt_natCast.mp ((Rat.mul_lt_mul_right g0).mp h)
      have al := (abs_le (x := q) (o := q.abs)).mp Rat.le_refl
      refine ⟨exO f q, m.natAbs, ex.1, eh, by omega, ?_, ?_⟩
      · refine ab _ ?_
        by_cases s : 0 ≤ m
        · have : ((m.natAbs : Nat) : Rat) = (m : Rat) := by rw [← Rat.intCast_natCast]; congr 1; omega
          rw [this, ← hm]
          grind
        · have : ((m.natAbs : Nat) : Rat) = -(m : Rat) := by rw [← Rat.intCast_natCast, ← Rat.intCast_neg]; congr 1; omega
          rw [this, Rat.neg_mul, ← hm]
          grind
      · by_cases s : 0 ≤ m
        · left
          have : ((m.natAbs : Nat) : Rat) = (m : Rat) := by rw [← Rat.intCast_natCast]; congr 1; omega
          rw [this]
          exact hm
        · right
          have : ((m.natAbs : Nat) : Rat) = -(m : Rat) := by rw [← Rat.intCast_natCast, ← Rat.intCast_neg]; congr 1; omega
          rw [this, Rat.neg_mul, Rat.neg_neg]
          exact hm
def btm (f : Fm) : Nat := f.b ^ (-f.lo).toNat
theorem btm_lo {f : Fm} (hf : FmOk f) : ∃ N : Nat, pw f.b f.lo * (btm f : Rat) = (N : Rat) := by
  have hb : 0 < f.b := by have := hf.b0; omega
  by_cases h : 0 ≤ f.lo
  · refine ⟨f.b ^ f.lo.natAbs, ?_⟩
    have : (-f.lo).toNat = 0 := by omega
    unfold btm pw
    rw [this, if_pos h, Nat.pow_zero]
    have o : ((1 : Nat) : Rat) = 1 := rfl
    rw [o, Rat.mul_one]
  · refine ⟨1, ?_⟩
    unfold btm
    rw [← pw_add hb]
    have : f.lo + ((-f.lo).toNat : Int) = 0 := by omega
    rw [this]
    unfold pw
    rw [if_pos (by omega)]
    rfl
def topI (B : Nat) (q : Rat) : Int := (q.num * (B : Int)).fdiv (q.den : Int)
theorem top_is {f : Fm} {q : Rat} (hf : FmOk f) (h : IsNum f q) : q.num * (btm f : Int) = topI (btm f) q * (q.den : Int) ∧ q * (btm f : Rat) = (topI (btm f) q : Rat) := by
  obtain ⟨j, hj⟩ := num_lo hf h
  obtain ⟨N, hN⟩ := btm_lo hf
  have e : q * (btm f : Rat) = ((j * (N : Int) : Int) : Rat) := by
    rw [Rat.intCast_mul, Rat.intCast_natCast, ← hN, ← Rat.mul_assoc, ← hj]
  have e2 : q.num * (btm f : Int) = j * (N : Int) * (q.den : Int) := by
    rw [← Rat.intCast_inj, Rat.intCast_mul, Rat.intCast_mul, num_is, Rat.intCast_natCast, Rat.intCast_natCast, ← e]
    grind
  have e3 : topI (btm f) q = j * (N : Int) := by
    unfold topI
    rw [e2]
    exact Int.mul_fdiv_cancel _ (den0 q)
  rw [e3]
  exact ⟨e2, e⟩
theorem btm_pos {f : Fm} (hf : FmOk f) : 0 < btm f := Nat.pow_pos (by have := hf.b0; omega)
theorem back_is {f : Fm} {q : Rat} (hf : FmOk f) (h : IsNum f q) : Rat.divInt (topI (btm f) q) (btm f) = q := by
  have e := (top_is hf h).2
  have n := nat_ne (btm_pos hf)
  rw [div_eq, ← e, Rat.intCast_natCast]
  generalize (btm f : Rat) = t at n
  clear e
  rw [Rat.div_def]
  grind
theorem div_lt {B : Nat} {a b : Int} (hB : 0 < B) (h : a < b) : Rat.divInt a B < Rat.divInt b B := by
  have p : (0 : Rat) < (B : Rat) := by
    have := (Rat.natCast_lt_natCast (a := 0) (b := B)).mpr hB
    exact this
  rw [div_eq, div_eq, Rat.intCast_natCast, Rat.div_def, Rat.div_def]
  exact Rat.mul_lt_mul_of_pos_right (Rat.intCast_lt_intCast.mpr h) (Rat.inv_pos.mpr p)
theorem row_of {f : Fm} {qs : List Rat} {ts : List Int} (hf : FmOk f) (nd : qs.Nodup) (mem : ∀ q, q ∈ qs ↔ Laid f q) (pm : ts.Perm (qs.map (topI (btm f)))) (so : ts.Pairwise (· ≤ ·)) : Row f (ts.map fun t => Rat.divInt t (btm f)) := by
  have mem' : ∀ q, q ∈ qs ↔ IsNum f q := fun q => (mem q).trans (laid_is hf q)
  have nt : ts.Nodup := by
    refine pm.nodup_iff.mpr ?_
    unfold List.Nodup
    rw [List.pairwise_map]
    have : ∀ a b, a ∈ qs → b ∈ qs → a ≠ b → topI (btm f) a ≠ topI (btm f) b := fun a b ha hb ne z => ne (by
      rw [← back_is hf ((mem' a).mp ha), z, back_is hf ((mem' b).mp hb)])
    exact List.Pairwise.imp_of_mem (fun ha hb ne => this _ _ ha hb ne) nd
  have lt : ts.Pairwise (· < ·) := by
    have := List.pairwise_and_iff.mpr ⟨so, nt⟩
    exact this.imp fun h => by have := h.1; have := h.2; omega
  refine ⟨?_, fun q => ?_⟩
  · rw [List.pairwise_map]
    exact lt.imp fun h => div_lt (btm_pos hf) h
  · rw [← mem', List.mem_map]
    constructor
    · rintro ⟨t, ht, rfl⟩
      obtain ⟨q, hq, rfl⟩ := List.mem_map.mp (pm.mem_iff.mp ht)
      rw [back_is hf ((mem' q).mp hq)]
      exact hq
    · intro hq
      exact ⟨topI (btm f) q, pm.mem_iff.mpr (List.mem_map.mpr ⟨q, hq, rfl⟩), back_is hf ((mem' q).mp hq)⟩
/-! the keys -/
def putQ (qs : List Rat) (q : Rat) : List Rat := if q ∈ qs then qs else qs ++ [q]
theorem putQ_nd {qs : List Rat} {q : Rat} (h : qs.Nodup) : (putQ qs q).Nodup := by
  unfold putQ
  split
  · exact h
  · rename_i n
    rw [List.nodup_append]
    exact ⟨h, by simp, fun a ha b hb z => n (by rw [← List.mem_singleton.mp hb, ← z]; exact ha)⟩
theorem putQ_mem {qs : List Rat} {q a : Rat} : a ∈ putQ qs q ↔ a ∈ qs ∨ a = q := by
  unfold putQ
  split
  · rename_i h
    exact ⟨.inl, fun z => z.elim id (fun z => z ▸ h)⟩
  · simp
theorem putQ_len {qs : List Rat} {q : Rat} : qs.length ≤ (putQ qs q).length ∧ (putQ qs q).length ≤ qs.length + 1 := by
  unfold putQ
  split <;> simp
def kq (q : Rat) : List Int := [q.num, (q.den : Int)]
theorem kq_inj {a b : Rat} (h : kq a = kq b) : a = b := by
  unfold kq at h
  simp only [List.cons.injEq, and_true] at h
  exact Rat.ext h.1 (by omega)
end Ra
end
section
set_option Elab.async false
set_option linter.all false
set_option maxRecDepth 100000
set_option maxHeartbeats 8000000
namespace G72
open PySem PySem.Spec PyProof.Rows L2 Mi
/-- what stands at the top, by its place -/
abbrev top (i : Nat) : Stmt := (PySem.Challenge.pw_roundwarrant_k72_whole_backing_shown).main.body.getD i (.Pass ⟨0, 0, 0, 0⟩)
/-- turns enough for each while -/
abbrev fuel : Nat := 10000000000000000000000000000000000000000000000000000000000000000000000000000000000000000000000000000000000000000000000000000000000000000000000000000000000000000000000000000000000000000000000000000000000000000000000000000000000000000000000000000000000000000000000000000000000000000000000000000000000000000000000000000000000000000000000000000000000000000000000000000000000000000000000000000000000000000000000000000000000000000000000000000000000000000000000000000000000000000000000000000000000000000000000000000000000000000000000000000000000000000000000000000000000000000000000000000000000000000000000000000000000000000000000000000000000000000000000000000000000000000000000000000000000000000000000000000
abbrev c_FIFTY : Int := 100000000000000000000000000000000000000000000000000
abbrev c_MOST_TURNS : Int := 6
abbrev c_MOST_NAME : Int := 8
abbrev c_MOST_INS : Int := 6
abbrev c_MOST_ROWS : Int := 3
abbrev c_MOST_LENGTH : Int := 30
abbrev c_BACKS : Str := "backs"
abbrev c_UNLIKE_WORD : Str := "unlike"
abbrev c_INS : Str := "ins"
abbrev c_ROWS : Str := "rows"
abbrev c_OUT : Str := "out"
/-- which errors the law's clause takes -/
abbrev errN : List Str := ["RoundError", "NoHold", "NoPromise"]
abbrev catT : Str → Option Bool := catN errN
/-- what isinstance tells of an error of the class c -/
abbrev isP : List (Str × Str × Bool) := ([("RoundError", "RoundError", true), ("RoundError", "NoHold", false), ("RoundError", "NoPromise", false)] : List (Str × Str × Bool)) ++ ([("NoHold", "RoundError", true), ("NoHold", "NoHold", true), ("NoHold", "NoPromise", false)] : List (Str × Str × Bool)) ++ ([("NoPromise", "RoundError", true), ("NoPromise", "NoHold", false), ("NoPromise", "NoPromise", true)] : List (Str × Str × Bool))
abbrev isT : Str → PV → Option Bool := isTab isP errN
/-! is_integer -/
abbrev s_is_integer : Stmt := top 7
def d_is_integer : EnP → Sto → SR := dRet (dAnd (dCB fIsi (dCons (dV 0) (dCons (dC (.ty "int")) (dNil)))) (dNot (dCB fIsi (dCons (dV 0) (dCons (dC (.ty "bool")) (dNil))))))
def F_is_integer : List PV → Sto → Res PV := runF 1 1 d_is_integer
theorem sc_is_integer : FnScope (["thing"] : List Str) (["thing"] : List Str) (defScope s_is_integer) := ⟨rfl, rfl, rfl, by decide +kernel, rfl, by decide +kernel, by decide +kernel⟩
theorem fc_is_integer {Z : Wd} (B : Bi Z.mg) (hT : Z.T.lm = none) (D : DefOk Z "is_integer" s_is_integer) : FC Z 1 "is_integer" F_is_integer := by
  have Sc := sc_is_integer
  exact D.fc Sc (fun _ _ _ _ _ _ us hl => match us, hl with | [_], _ => rfl) fun f cdv A outer s H E C => by exact (css_one (cs_ret (ce_and (ce_callB (x := ("isinstance" : Str)) call_isi sl_isi rfl B.b_isinstance PyProof.Rows.boot_isinstance (ca_cons (ce_v 0) (ca_cons (ce_bty rfl B.b_int PyProof.Rows.boot_int) ca_nil))) (ce_one (ce_not (ce_callB (x := ("isinstance" : Str)) call_isi sl_isi rfl B.b_isinstance PyProof.Rows.boot_isinstance (ca_cons (ce_v 0) (ca_cons (ce_bty rfl B.b_bool PyProof.Rows.boot_bool) ca_nil))))))))
/-! is_within -/
abbrev s_is_within : Stmt := top 8
def d_is_within : EnP → Sto → SR := dRet (dAnd (dCB F_is_integer (dCons (dV 0) (dNil))) (dChain (fCmpI iLe) (fCmpI iLe) (dV 1) (dV 0) (dV 2)))
def F_is_within : List PV → Sto → Res PV := runF 3 3 d_is_within
theorem sc_is_within : FnScope (["thing", "low", "high"] : List Str) (["thing", "low", "high"] : List Str) (defScope s_is_within) := ⟨rfl, rfl, rfl, by decide +kernel, rfl, by decide +kernel, by decide +kernel⟩
theorem fc_is_within {Z : Wd} (B : Bi Z.mg) (hT : Z.T.lm = none) (h_is_integer : FC Z 1 "is_integer" F_is_integer) (D : DefOk Z "is_within" s_is_within) : FC Z 2 "is_within" F_is_within := by
  have Sc := sc_is_within
  exact D.fc Sc (fun _ _ _ _ _ _ us hl => match us, hl with | [_, _, _], _ => rfl) fun f cdv A outer s H E C => by exact (css_one (cs_ret (ce_and (ce_call h_is_integer C (by decide) rfl (ca_cons (ce_v 0) ca_nil)) (ce_one (ce_chain op_le (sn_cmpI iLe) op_le (sn_cmpI iLe) (ce_v 1) (ce_v 0) (ce_v 2))))))
/-! too_great -/
abbrev s_too_great : Stmt := top 9
def d_too_great : EnP → Sto → SR := dSeq (dSet 0 (dC (.int 1))) (dSeq (dFor (iRange (dCons (dC (.int c_MOST_TURNS)) (dNil))) (gNm 1) (dSet 0 (dBin (fMul false) (dV 0) (dC (.int c_FIFTY))))) (dRet (dV 0)))
def F_too_great : List PV → Sto → Res PV := runF 0 2 d_too_great
theorem sc_too_great : FnScope (["found", "turn"] : List Str) ([] : List Str) (defScope s_too_great) := ⟨rfl, rfl, rfl, by decide +kernel, rfl, by decide +kernel, by decide +kernel⟩
theorem fc_too_great {Z : Wd} (B : Bi Z.mg) (hT : Z.T.lm = none) (h_MOST_TURNS : ∃ t, Z.mg "MOST_TURNS" = some (.int c_MOST_TURNS t)) (h_FIFTY : ∃ t, Z.mg "FIFTY" = some (.int c_FIFTY t)) (D : DefOk Z "too_great" s_too_great) : FC Z 1 "too_great" F_too_great := by
  have Sc := sc_too_great
  exact D.fc Sc (fun _ _ _ _ _ _ us hl => match us, hl with | [], _ => rfl) fun f cdv A outer s H E C => by exact (css_cons (cs_set (i := 0) Sc.nd rfl (Or.inl rfl) ce_int) (css_cons (cs_for C.po C.calm (ci_range1 rfl B.b_range (ca_cons (ce_gi h_MOST_TURNS rfl) ca_nil) rfl len1) (cg_name (i := 1) Sc.nd rfl (Or.inl rfl)) (css_one (cs_set (i := 0) Sc.nd rfl (Or.inl rfl) (ce_bin op_mulM (sn_mul false (fun h => nomatch h)) (ce_v 0) (ce_gi h_FIFTY rfl))))) (css_one (cs_ret (ce_v 0)))))
/-! common_divisor -/
abbrev s_common_divisor : Stmt := top 10
def d_common_divisor : EnP → Sto → SR := dSeq (dPar 0 1 (dCons (dCB fAbs (dCons (dV 0) (dNil))) (dCons (dCB fAbs (dCons (dV 1) (dNil))) (dNil)))) (dSeq (whileP (dB (dBin (fCmpI iGt) (dV 1) (dC (.int 0)))) (dPar 0 1 (dCons (dV 1) (dCons (dBin fMod (dV 0) (dV 1)) (dNil)))) fuel) (dRet (dV 0)))
def F_common_divisor : List PV → Sto → Res PV := runF 2 2 d_common_divisor
theorem sc_common_divisor : FnScope (["one", "other"] : List Str) (["one", "other"] : List Str) (defScope s_common_divisor) := ⟨rfl, rfl, rfl, by decide +kernel, rfl, by decide +kernel, by decide +kernel⟩
theorem fc_common_divisor {Z : Wd} (B : Bi Z.mg) (hT : Z.T.lm = none) (D : DefOk Z "common_divisor" s_common_divisor) : FC Z 1 "common_divisor" F_common_divisor := by
  have Sc := sc_common_divisor
  exact D.fc Sc (fun _ _ _ _ _ _ us hl => match us, hl with | [_, _], _ => rfl) fun f cdv A outer s H E C => by exact (css_cons (cs_par (i := 0) (j := 1) C.calm Sc.nd rfl rfl (by decide) rfl rfl (ca_cons (ce_callB (x := ("abs" : Str)) call_abs sl_abs rfl B.b_abs PyProof.Rows.boot_abs (ca_cons (ce_v 0) ca_nil)) (ca_cons (ce_callB (x := ("abs" : Str)) call_abs sl_abs rfl B.b_abs PyProof.Rows.boot_abs (ca_cons (ce_v 1) ca_nil)) ca_nil)) rfl) (css_cons (cs_while fuel C.po (ct_cmp op_gt (sn_cmpI iGt) (ce_v 1) ce_int rfl) (css_one (cs_par (i := 0) (j := 1) C.calm Sc.nd rfl rfl (by decide) rfl rfl (ca_cons (ce_v 1) (ca_cons (ce_bin op_modN sn_mod (ce_v 0) (ce_v 1)) ca_nil)) rfl))) (css_one (cs_ret (ce_v 0)))))
/-! is_fraction -/
abbrev s_is_fraction : Stmt := top 11
def d_is_fraction : EnP → Sto → SR := dSeq (dIfS (bOr (bNot (dTru (dCB fIsi (dCons (dV 0) (dCons (dC (.ty "tuple")) (dNil)))))) (bOr (dB (dBin (fEq true) (dCB fLen (dCons (dV 0) (dNil))) (dC (.int 2)))) (bNot (dTru (dCB fAll (dCons (dLc false (iSeq (dV 0)) (cNm 1) (dYes) (dCB F_is_integer (dCons (dV 1) (dNil))) [1]) (dNil))))))) (dRet (dC (.bl false))) (dPass)) (dSeq (dSet 2 (dCB F_too_great dNil)) (dSeq (dIfS (bOr (bNot (dB (dChain (fCmpI iLt) (fCmpI iLt) (dC (.int 0)) (dBin fIx (dV 0) (dC (.int 1))) (dV 2)))) (dB (dBin (fCmpI iGe) (dCB fAbs (dCons (dBin fIx (dV 0) (dC (.int 0))) (dNil))) (dV 2)))) (dRet (dC (.bl false))) (dPass)) (dRet (dBin (fEq false) (dCB F_common_divisor (dCons (dBin fIx (dV 0) (dC (.int 0))) (dCons (dBin fIx (dV 0) (dC (.int 1))) (dNil)))) (dC (.int 1))))))
def F_is_fraction : List PV → Sto → Res PV := runF 1 3 d_is_fraction
theorem sc_is_fraction : FnScope (["thing", "one", "most"] : List Str) (["thing"] : List Str) (defScope s_is_fraction) := ⟨rfl, rfl, rfl, by decide +kernel, rfl, by decide +kernel, by decide +kernel⟩
theorem fc_is_fraction {Z : Wd} (B : Bi Z.mg) (hT : Z.T.lm = none) (h_is_integer : FC Z 1 "is_integer" F_is_integer) (h_too_great : FC Z 1 "too_great" F_too_great) (h_common_divisor : FC Z 1 "common_divisor" F_common_divisor) (D : DefOk Z "is_fraction" s_is_fraction) : FC Z 2 "is_fraction" F_is_fraction := by
  have Sc := sc_is_fraction
  exact D.fc Sc (fun _ _ _ _ _ _ us hl => match us, hl with | [_], _ => rfl) fun f cdv A outer s H E C => by exact (css_cons (cs_if (ct_w (cw_or (ct_not (ct_tru (ce_callB (x := ("isinstance" : Str)) call_isi sl_isi rfl B.b_isinstance PyProof.Rows.boot_isinstance (ca_cons (ce_v 0) (ca_cons (ce_bty rfl B.b_tuple PyProof.Rows.boot_tuple) ca_nil))))) (cw_or (ct_cmp (op_neD (u64 C.u)) sn_ne (ce_callB (x := ("len" : Str)) call_len sl_len rfl B.b_len (by decide +kernel) (ca_cons (ce_v 0) ca_nil)) ce_int rfl) (cw_or1 (ct_not (ct_tru (ce_callB (x := ("all" : Str)) (cr_all C.calm) sl_all rfl B.b_all (by decide +kernel) (ca_cons (ce_lcC false (fun h => nomatch h) C Sc.nd (ci_seq (ce_v 0)) (show BlkOk (["thing", "one", "most"] : List Str) (defScope s_is_fraction) _ [(("one" : Str), 1)] from blkOk_by (by decide +kernel)) (fun _ _ _ _ _ C => (pg_name (i := 1) Sc.nd rfl (Or.inl rfl) (Or.inr rfl))) (tgc_name (by decide)) (fun _ _ _ _ _ _ => pts_yes) (fun _ _ _ _ _ C => (ce_call h_is_integer C (by decide) rfl (ca_cons (ce_v 1) ca_nil)))) ca_nil)))))))) (css_one (cs_ret ce_bl)) css_nil) (css_cons (cs_set (i := 2) Sc.nd rfl (Or.inl rfl) (ce_call0 h_too_great C (by decide) rfl)) (css_cons (cs_if (ct_w (cw_or (ct_not (ct_chain op_lt (sn_cmpI iLt) op_lt (sn_cmpI iLt) ce_int (ce_ix (ce_v 0) ce_int (fun _ _ => rfl)) (ce_v 2))) (cw_or1 (ct_cmp op_ge (sn_cmpI iGe) (ce_callB (x := ("abs" : Str)) call_abs sl_abs rfl B.b_abs PyProof.Rows.boot_abs (ca_cons (ce_ix (ce_v 0) ce_int (fun _ _ => rfl)) ca_nil)) (ce_v 2) rfl)))) (css_one (cs_ret ce_bl)) css_nil) (css_one (cs_ret (ce_cmp (op_eqD (u64 C.u)) sn_eq (ce_call h_common_divisor C (by decide) rfl (ca_cons (ce_ix (ce_v 0) ce_int (fun _ _ => rfl)) (ca_cons (ce_ix (ce_v 0) ce_int (fun _ _ => rfl)) ca_nil))) ce_int rfl))))))
/-! raw_at_most -/
abbrev s_raw_at_most : Stmt := top 12
def d_raw_at_most : EnP → Sto → SR := dRet (dBin (fCmpI iLe) (dBin (fMul false) (dBin fIx (dV 0) (dC (.int 0))) (dBin fIx (dV 1) (dC (.int 1)))) (dBin (fMul false) (dBin fIx (dV 1) (dC (.int 0))) (dBin fIx (dV 0) (dC (.int 1)))))
def F_raw_at_most : List PV → Sto → Res PV := runF 2 2 d_raw_at_most
theorem sc_raw_at_most : FnScope (["x", "y"] : List Str) (["x", "y"] : List Str) (defScope s_raw_at_most) := ⟨rfl, rfl, rfl, by decide +kernel, rfl, by decide +kernel, by decide +kernel⟩
theorem fc_raw_at_most {Z : Wd} (B : Bi Z.mg) (hT : Z.T.lm = none) (D : DefOk Z "raw_at_most" s_raw_at_most) : FC Z 1 "raw_at_most" F_raw_at_most := by
  have Sc := sc_raw_at_most
  exact D.fc Sc (fun _ _ _ _ _ _ us hl => match us, hl with | [_, _], _ => rfl) fun f cdv A outer s H E C => by exact (css_one (cs_ret (ce_cmp op_le (sn_cmpI iLe) (ce_bin op_mulM (sn_mul false (fun h => nomatch h)) (ce_ix (ce_v 0) ce_int (fun _ _ => rfl)) (ce_ix (ce_v 1) ce_int (fun _ _ => rfl))) (ce_bin op_mulM (sn_mul false (fun h => nomatch h)) (ce_ix (ce_v 1) ce_int (fun _ _ => rfl)) (ce_ix (ce_v 0) ce_int (fun _ _ => rfl))) rfl)))
/-! is_hold -/
abbrev s_is_hold : Stmt := top 14
def d_is_hold : EnP → Sto → SR := dSeq (dIfS (bOr (bNot (dTru (dCB fIsi (dCons (dV 0) (dCons (dC (.ty "tuple")) (dNil)))))) (bOr (dB (dBin (fEq true) (dCB fLen (dCons (dV 0) (dNil))) (dC (.int 3)))) (bNot (dTru (dCB fAll (dCons (dLc false (iSeq (dV 0)) (cNm 1) (dYes) (dCB F_is_fraction (dCons (dV 1) (dNil))) [1]) (dNil))))))) (dRet (dC (.bl false))) (dPass)) (dRet (dAnd (dCB F_raw_at_most (dCons (dBin fIx (dV 0) (dC (.int 0))) (dCons (dBin fIx (dV 0) (dC (.int 1))) (dNil)))) (dBin (fCmpI iGe) (dBin fIx (dBin fIx (dV 0) (dC (.int 2))) (dC (.int 0))) (dC (.int 0)))))
def F_is_hold : List PV → Sto → Res PV := runF 1 2 d_is_hold
theorem sc_is_hold : FnScope (["thing", "one"] : List Str) (["thing"] : List Str) (defScope s_is_hold) := ⟨rfl, rfl, rfl, by decide +kernel, rfl, by decide +kernel, by decide +kernel⟩
theorem fc_is_hold {Z : Wd} (B : Bi Z.mg) (hT : Z.T.lm = none) (h_is_fraction : FC Z 2 "is_fraction" F_is_fraction) (h_raw_at_most : FC Z 1 "raw_at_most" F_raw_at_most) (D : DefOk Z "is_hold" s_is_hold) : FC Z 3 "is_hold" F_is_hold := by
  have Sc := sc_is_hold
  exact D.fc Sc (fun _ _ _ _ _ _ us hl => match us, hl with | [_], _ => rfl) fun f cdv A outer s H E C => by exact (css_cons (cs_if (ct_w (cw_or (ct_not (ct_tru (ce_callB (x := ("isinstance" : Str)) call_isi sl_isi rfl B.b_isinstance PyProof.Rows.boot_isinstance (ca_cons (ce_v 0) (ca_cons (ce_bty rfl B.b_tuple PyProof.Rows.boot_tuple) ca_nil))))) (cw_or (ct_cmp (op_neD (u64 C.u)) sn_ne (ce_callB (x := ("len" : Str)) call_len sl_len rfl B.b_len (by decide +kernel) (ca_cons (ce_v 0) ca_nil)) ce_int rfl) (cw_or1 (ct_not (ct_tru (ce_callB (x := ("all" : Str)) (cr_all C.calm) sl_all rfl B.b_all (by decide +kernel) (ca_cons (ce_lcC false (fun h => nomatch h) C Sc.nd (ci_seq (ce_v 0)) (show BlkOk (["thing", "one"] : List Str) (defScope s_is_hold) _ [(("one" : Str), 1)] from blkOk_by (by decide +kernel)) (fun _ _ _ _ _ C => (pg_name (i := 1) Sc.nd rfl (Or.inl rfl) (Or.inr rfl))) (tgc_name (by decide)) (fun _ _ _ _ _ _ => pts_yes) (fun _ _ _ _ _ C => (ce_call h_is_fraction C (by decide) rfl (ca_cons (ce_v 1) ca_nil)))) ca_nil)))))))) (css_one (cs_ret ce_bl)) css_nil) (css_one (cs_ret (ce_and (ce_call h_raw_at_most C (by decide) rfl (ca_cons (ce_ix (ce_v 0) ce_int (fun _ _ => rfl)) (ca_cons (ce_ix (ce_v 0) ce_int (fun _ _ => rfl)) ca_nil))) (ce_one (ce_cmp op_ge (sn_cmpI iGe) (ce_ix (ce_ix (ce_v 0) ce_int (fun _ _ => rfl)) ce_int (fun _ _ => rfl)) ce_int rfl))))))
/-! check_hold -/
abbrev s_check_hold : Stmt := top 15
def d_check_hold : EnP → Sto → SR := dIfS (bNot (dTru (dCB F_is_hold (dCons (dV 0) (dNil))))) (dRaise ("NoHold" : Str)) (dPass)
def F_check_hold : List PV → Sto → Res PV := runF 1 1 d_check_hold
theorem sc_check_hold : FnScope (["thing"] : List Str) (["thing"] : List Str) (defScope s_check_hold) := ⟨rfl, rfl, rfl, by decide +kernel, rfl, by decide +kernel, by decide +kernel⟩
theorem fc_check_hold {Z : Wd} (B : Bi Z.mg) (hT : Z.T.lm = none) (e_NoHold : EC Z.K Z.mg "NoHold") (h_is_hold : FC Z 3 "is_hold" F_is_hold) (D : DefOk Z "check_hold" s_check_hold) : FC Z 4 "check_hold" F_check_hold := by
  have Sc := sc_check_hold
  exact D.fc Sc (fun _ _ _ _ _ _ us hl => match us, hl with | [_], _ => rfl) fun f cdv A outer s H E C => by exact (css_one (cs_if (ct_not (ct_tru (ce_call h_is_hold C (by decide) rfl (ca_cons (ce_v 0) ca_nil)))) (css_one (cs_raise0 e_NoHold C.calm C.tk rfl)) css_nil))
/-! raw_covers -/
abbrev s_raw_covers : Stmt := top 16
def d_raw_covers : EnP → Sto → SR := dSeq (dIfS (bOr (bNot (dTru (dCB F_raw_at_most (dCons (dBin fIx (dV 0) (dC (.int 0))) (dCons (dBin fIx (dV 1) (dC (.int 0))) (dNil)))))) (bNot (dTru (dCB F_raw_at_most (dCons (dBin fIx (dV 1) (dC (.int 1))) (dCons (dBin fIx (dV 0) (dC (.int 1))) (dNil))))))) (dRet (dC (.bl false))) (dPass)) (dRet (dCB F_raw_at_most (dCons (dBin fIx (dV 1) (dC (.int 2))) (dCons (dBin fIx (dV 0) (dC (.int 2))) (dNil)))))
def F_raw_covers : List PV → Sto → Res PV := runF 2 2 d_raw_covers
theorem sc_raw_covers : FnScope (["one", "other"] : List Str) (["one", "other"] : List Str) (defScope s_raw_covers) := ⟨rfl, rfl, rfl, by decide +kernel, rfl, by decide +kernel, by decide +kernel⟩
theorem fc_raw_covers {Z : Wd} (B : Bi Z.mg) (hT : Z.T.lm = none) (h_raw_at_most : FC Z 1 "raw_at_most" F_raw_at_most) (D : DefOk Z "raw_covers" s_raw_covers) : FC Z 2 "raw_covers" F_raw_covers := by
  have Sc := sc_raw_covers
  exact D.fc Sc (fun _ _ _ _ _ _ us hl => match us, hl with | [_, _], _ => rfl) fun f cdv A outer s H E C => by exact (css_cons (cs_if (ct_w (cw_or (ct_not (ct_tru (ce_call h_raw_at_most C (by decide) rfl (ca_cons (ce_ix (ce_v 0) ce_int (fun _ _ => rfl)) (ca_cons (ce_ix (ce_v 1) ce_int (fun _ _ => rfl)) ca_nil))))) (cw_or1 (ct_not (ct_tru (ce_call h_raw_at_most C (by decide) rfl (ca_cons (ce_ix (ce_v 1) ce_int (fun _ _ => rfl)) (ca_cons (ce_ix (ce_v 0) ce_int (fun _ _ => rfl)) ca_nil)))))))) (css_one (cs_ret ce_bl)) css_nil) (css_one (cs_ret (ce_call h_raw_at_most C (by decide) rfl (ca_cons (ce_ix (ce_v 1) ce_int (fun _ _ => rfl)) (ca_cons (ce_ix (ce_v 0) ce_int (fun _ _ => rfl)) ca_nil))))))
/-! covers -/
abbrev s_covers : Stmt := top 17
def d_covers : EnP → Sto → SR := dSeq (dExpr (dCB F_check_hold (dCons (dV 0) (dNil)))) (dSeq (dExpr (dCB F_check_hold (dCons (dV 1) (dNil)))) (dRet (dCB F_raw_covers (dCons (dV 0) (dCons (dV 1) (dNil))))))
def F_covers : List PV → Sto → Res PV := runF 2 2 d_covers
theorem sc_covers : FnScope (["one", "other"] : List Str) (["one", "other"] : List Str) (defScope s_covers) := ⟨rfl, rfl, rfl, by decide +kernel, rfl, by decide +kernel, by decide +kernel⟩
theorem fc_covers {Z : Wd} (B : Bi Z.mg) (hT : Z.T.lm = none) (h_check_hold : FC Z 4 "check_hold" F_check_hold) (h_raw_covers : FC Z 2 "raw_covers" F_raw_covers) (D : DefOk Z "covers" s_covers) : FC Z 5 "covers" F_covers := by
  have Sc := sc_covers
  exact D.fc Sc (fun _ _ _ _ _ _ us hl => match us, hl with | [_, _], _ => rfl) fun f cdv A outer s H E C => by exact (css_cons (cs_expr (ce_call h_check_hold C (by decide) rfl (ca_cons (ce_v 0) ca_nil))) (css_cons (cs_expr (ce_call h_check_hold C (by decide) rfl (ca_cons (ce_v 1) ca_nil))) (css_one (cs_ret (ce_call h_raw_covers C (by decide) rfl (ca_cons (ce_v 0) (ca_cons (ce_v 1) ca_nil)))))))
/-! is_name -/
abbrev s_is_name : Stmt := top 23
def d_is_name : EnP → Sto → SR := dSeq (dIfS (bOr (bNot (dTru (dCB fIsi (dCons (dV 0) (dCons (dC (.ty "str")) (dNil)))))) (bNot (dB (dChain (fCmpI iLe) (fCmpI iLe) (dC (.int 1)) (dCB fLen (dCons (dV 0) (dNil))) (dC (.int c_MOST_NAME)))))) (dRet (dC (.bl false))) (dPass)) (dRet (dCB fAll (dCons (dLc false (iSeq (dV 0)) (cNm 1) (dYes) (dChain (fCmpS sLe) (fCmpS sLe) (dC (.str ("a" : Str))) (dV 1) (dC (.str ("z" : Str)))) [1]) (dNil))))
def F_is_name : List PV → Sto → Res PV := runF 1 2 d_is_name
theorem sc_is_name : FnScope (["thing", "sign"] : List Str) (["thing"] : List Str) (defScope s_is_name) := ⟨rfl, rfl, rfl, by decide +kernel, rfl, by decide +kernel, by decide +kernel⟩
theorem fc_is_name {Z : Wd} (B : Bi Z.mg) (hT : Z.T.lm = none) (h_MOST_NAME : ∃ t, Z.mg "MOST_NAME" = some (.int c_MOST_NAME t)) (D : DefOk Z "is_name" s_is_name) : FC Z 1 "is_name" F_is_name := by
  have Sc := sc_is_name
  exact D.fc Sc (fun _ _ _ _ _ _ us hl => match us, hl with | [_], _ => rfl) fun f cdv A outer s H E C => by exact (css_cons (cs_if (ct_w (cw_or (ct_not (ct_tru (ce_callB (x := ("isinstance" : Str)) call_isi sl_isi rfl B.b_isinstance PyProof.Rows.boot_isinstance (ca_cons (ce_v 0) (ca_cons (ce_bty rfl B.b_str PyProof.Rows.boot_str) ca_nil))))) (cw_or1 (ct_not (ct_chain op_le (sn_cmpI iLe) op_le (sn_cmpI iLe) ce_int (ce_callB (x := ("len" : Str)) call_len sl_len rfl B.b_len (by decide +kernel) (ca_cons (ce_v 0) ca_nil)) (ce_gi h_MOST_NAME rfl)))))) (css_one (cs_ret ce_bl)) css_nil) (css_one (cs_ret (ce_callB (x := ("all" : Str)) (cr_all C.calm) sl_all rfl B.b_all (by decide +kernel) (ca_cons (ce_lcC false (fun h => nomatch h) C Sc.nd (ci_seq (ce_v 0)) (show BlkOk (["thing", "sign"] : List Str) (defScope s_is_name) _ [(("sign" : Str), 1)] from blkOk_by (by decide +kernel)) (fun _ _ _ _ _ C => (pg_name (i := 1) Sc.nd rfl (Or.inl rfl) (Or.inr rfl))) (tgc_name (by decide)) (fun _ _ _ _ _ _ => pts_yes) (fun _ _ _ _ _ C => (ce_chain op_le_str (sn_cmpS sLe) op_le_str (sn_cmpS sLe) ce_str (ce_v 1) ce_str))) ca_nil)))))
/-! is_row -/
abbrev s_is_row : Stmt := top 24
def d_is_row : EnP → Sto → SR := dRet (dAnd (dCB fIsi (dCons (dV 0) (dCons (dC (.ty "tuple")) (dNil)))) (dAnd (dBin (fEq false) (dCB fLen (dCons (dV 0) (dNil))) (dC (.int 2))) (dAnd (dCB F_is_within (dCons (dBin fIx (dV 0) (dC (.int 0))) (dCons (dC (.int 1)) (dCons (dC (.int c_MOST_LENGTH)) (dNil))))) (dCB F_is_hold (dCons (dBin fIx (dV 0) (dC (.int 1))) (dNil))))))
def F_is_row : List PV → Sto → Res PV := runF 1 1 d_is_row
theorem sc_is_row : FnScope (["thing"] : List Str) (["thing"] : List Str) (defScope s_is_row) := ⟨rfl, rfl, rfl, by decide +kernel, rfl, by decide +kernel, by decide +kernel⟩
theorem fc_is_row {Z : Wd} (B : Bi Z.mg) (hT : Z.T.lm = none) (h_MOST_LENGTH : ∃ t, Z.mg "MOST_LENGTH" = some (.int c_MOST_LENGTH t)) (h_is_within : FC Z 2 "is_within" F_is_within) (h_is_hold : FC Z 3 "is_hold" F_is_hold) (D : DefOk Z "is_row" s_is_row) : FC Z 4 "is_row" F_is_row := by
  have Sc := sc_is_row
  exact D.fc Sc (fun _ _ _ _ _ _ us hl => match us, hl with | [_], _ => rfl) fun f cdv A outer s H E C => by exact (css_one (cs_ret (ce_and (ce_callB (x := ("isinstance" : Str)) call_isi sl_isi rfl B.b_isinstance PyProof.Rows.boot_isinstance (ca_cons (ce_v 0) (ca_cons (ce_bty rfl B.b_tuple PyProof.Rows.boot_tuple) ca_nil))) (ce_and (ce_cmp (op_eqD (u64 C.u)) sn_eq (ce_callB (x := ("len" : Str)) call_len sl_len rfl B.b_len (by decide +kernel) (ca_cons (ce_v 0) ca_nil)) ce_int rfl) (ce_and (ce_call h_is_within C (by decide) rfl (ca_cons (ce_ix (ce_v 0) ce_int (fun _ _ => rfl)) (ca_cons ce_int (ca_cons (ce_gi h_MOST_LENGTH rfl) ca_nil)))) (ce_one (ce_call h_is_hold C (by decide) rfl (ca_cons (ce_ix (ce_v 0) ce_int (fun _ _ => rfl)) ca_nil))))))))
/-! are_rows -/
abbrev s_are_rows : Stmt := top 25
def d_are_rows : EnP → Sto → SR := dRet (dAnd (dCB fIsi (dCons (dV 0) (dCons (dC (.ty "tuple")) (dNil)))) (dAnd (dBin (fCmpI iLe) (dCB fLen (dCons (dV 0) (dNil))) (dC (.int c_MOST_ROWS))) (dCB fAll (dCons (dLc false (iSeq (dV 0)) (cNm 1) (dYes) (dCB F_is_row (dCons (dV 1) (dNil))) [1]) (dNil)))))
def F_are_rows : List PV → Sto → Res PV := runF 1 2 d_are_rows
theorem sc_are_rows : FnScope (["thing", "one"] : List Str) (["thing"] : List Str) (defScope s_are_rows) := ⟨rfl, rfl, rfl, by decide +kernel, rfl, by decide +kernel, by decide +kernel⟩
theorem fc_are_rows {Z : Wd} (B : Bi Z.mg) (hT : Z.T.lm = none) (h_MOST_ROWS : ∃ t, Z.mg "MOST_ROWS" = some (.int c_MOST_ROWS t)) (h_is_row : FC Z 4 "is_row" F_is_row) (D : DefOk Z "are_rows" s_are_rows) : FC Z 5 "are_rows" F_are_rows := by
  have Sc := sc_are_rows
  exact D.fc Sc (fun _ _ _ _ _ _ us hl => match us, hl with | [_], _ => rfl) fun f cdv A outer s H E C => by exact (css_one (cs_ret (ce_and (ce_callB (x := ("isinstance" : Str)) call_isi sl_isi rfl B.b_isinstance PyProof.Rows.boot_isinstance (ca_cons (ce_v 0) (ca_cons (ce_bty rfl B.b_tuple PyProof.Rows.boot_tuple) ca_nil))) (ce_and (ce_cmp op_le (sn_cmpI iLe) (ce_callB (x := ("len" : Str)) call_len sl_len rfl B.b_len (by decide +kernel) (ca_cons (ce_v 0) ca_nil)) (ce_gi h_MOST_ROWS rfl) rfl) (ce_one (ce_callB (x := ("all" : Str)) (cr_all C.calm) sl_all rfl B.b_all (by decide +kernel) (ca_cons (ce_lcC false (fun h => nomatch h) C Sc.nd (ci_seq (ce_v 0)) (show BlkOk (["thing", "one"] : List Str) (defScope s_are_rows) _ [(("one" : Str), 1)] from blkOk_by (by decide +kernel)) (fun _ _ _ _ _ C => (pg_name (i := 1) Sc.nd rfl (Or.inl rfl) (Or.inr rfl))) (tgc_name (by decide)) (fun _ _ _ _ _ _ => pts_yes) (fun _ _ _ _ _ C => (ce_call h_is_row C (by decide) rfl (ca_cons (ce_v 1) ca_nil)))) ca_nil)))))))
/-! is_promise -/
abbrev s_is_promise : Stmt := top 26
def d_is_promise : EnP → Sto → SR := dSeq (dIfS (bOr (bNot (dTru (dCB fIsi (dCons (dV 0) (dCons (dC (.ty "tuple")) (dNil)))))) (bOr (dB (dBin (fEq true) (dCB fLen (dCons (dV 0) (dNil))) (dC (.int 4)))) (bNot (dTru (dCB F_is_name (dCons (dBin fIx (dV 0) (dC (.int 0))) (dNil))))))) (dRet (dC (.bl false))) (dPass)) (dSeq (dSet 1 (dBin fIx (dV 0) (dC (.int 1)))) (dSeq (dIfS (bOr (bNot (dTru (dCB fIsi (dCons (dV 1) (dCons (dC (.ty "tuple")) (dNil)))))) (bOr (dB (dBin (fCmpI iGt) (dCB fLen (dCons (dV 1) (dNil))) (dC (.int c_MOST_INS)))) (bNot (dTru (dCB fAll (dCons (dLc false (iSeq (dV 1)) (cNm 2) (dYes) (dCB F_is_hold (dCons (dV 2) (dNil))) [2]) (dNil))))))) (dRet (dC (.bl false))) (dPass)) (dRet (dAnd (dCB F_are_rows (dCons (dBin fIx (dV 0) (dC (.int 2))) (dNil))) (dCB F_is_hold (dCons (dBin fIx (dV 0) (dC (.int 3))) (dNil)))))))
def F_is_promise : List PV → Sto → Res PV := runF 1 3 d_is_promise
theorem sc_is_promise : FnScope (["thing", "ins", "one"] : List Str) (["thing"] : List Str) (defScope s_is_promise) := ⟨rfl, rfl, rfl, by decide +kernel, rfl, by decide +kernel, by decide +kernel⟩
theorem fc_is_promise {Z : Wd} (B : Bi Z.mg) (hT : Z.T.lm = none) (h_MOST_INS : ∃ t, Z.mg "MOST_INS" = some (.int c_MOST_INS t)) (h_is_name : FC Z 1 "is_name" F_is_name) (h_is_hold : FC Z 3 "is_hold" F_is_hold) (h_are_rows : FC Z 5 "are_rows" F_are_rows) (D : DefOk Z "is_promise" s_is_promise) : FC Z 6 "is_promise" F_is_promise := by
  have Sc := sc_is_promise
  exact D.fc Sc (fun _ _ _ _ _ _ us hl => match us, hl with | [_], _ => rfl) fun f cdv A outer s H E C => by exact (css_cons (cs_if (ct_w (cw_or (ct_not (ct_tru (ce_callB (x := ("isinstance" : Str)) call_isi sl_isi rfl B.b_isinstance PyProof.Rows.boot_isinstance (ca_cons (ce_v 0) (ca_cons (ce_bty rfl B.b_tuple PyProof.Rows.boot_tuple) ca_nil))))) (cw_or (ct_cmp (op_neD (u64 C.u)) sn_ne (ce_callB (x := ("len" : Str)) call_len sl_len rfl B.b_len (by decide +kernel) (ca_cons (ce_v 0) ca_nil)) ce_int rfl) (cw_or1 (ct_not (ct_tru (ce_call h_is_name C (by decide) rfl (ca_cons (ce_ix (ce_v 0) ce_int (fun _ _ => rfl)) ca_nil)))))))) (css_one (cs_ret ce_bl)) css_nil) (css_cons (cs_set (i := 1) Sc.nd rfl (Or.inl rfl) (ce_ix (ce_v 0) ce_int (fun _ _ => rfl))) (css_cons (cs_if (ct_w (cw_or (ct_not (ct_tru (ce_callB (x := ("isinstance" : Str)) call_isi sl_isi rfl B.b_isinstance PyProof.Rows.boot_isinstance (ca_cons (ce_v 1) (ca_cons (ce_bty rfl B.b_tuple PyProof.Rows.boot_tuple) ca_nil))))) (cw_or (ct_cmp op_gt (sn_cmpI iGt) (ce_callB (x := ("len" : Str)) call_len sl_len rfl B.b_len (by decide +kernel) (ca_cons (ce_v 1) ca_nil)) (ce_gi h_MOST_INS rfl) rfl) (cw_or1 (ct_not (ct_tru (ce_callB (x := ("all" : Str)) (cr_all C.calm) sl_all rfl B.b_all (by decide +kernel) (ca_cons (ce_lcC false (fun h => nomatch h) C Sc.nd (ci_seq (ce_v 1)) (show BlkOk (["thing", "ins", "one"] : List Str) (defScope s_is_promise) _ [(("one" : Str), 2)] from blkOk_by (by decide +kernel)) (fun _ _ _ _ _ C => (pg_name (i := 2) Sc.nd rfl (Or.inl rfl) (Or.inr rfl))) (tgc_name (by decide)) (fun _ _ _ _ _ _ => pts_yes) (fun _ _ _ _ _ C => (ce_call h_is_hold C (by decide) rfl (ca_cons (ce_v 2) ca_nil)))) ca_nil)))))))) (css_one (cs_ret ce_bl)) css_nil) (css_one (cs_ret (ce_and (ce_call h_are_rows C (by decide) rfl (ca_cons (ce_ix (ce_v 0) ce_int (fun _ _ => rfl)) ca_nil)) (ce_one (ce_call h_is_hold C (by decide) rfl (ca_cons (ce_ix (ce_v 0) ce_int (fun _ _ => rfl)) ca_nil)))))))))
/-! raw_backs -/
abbrev s_raw_backs : Stmt := top 28
def d_raw_backs : EnP → Sto → SR := dSeq (dIfS (bOr (dB (dBin (fEq true) (dCB fLen (dCons (dBin fIx (dV 0) (dC (.int 1))) (dNil))) (dCB fLen (dCons (dBin fIx (dV 1) (dC (.int 1))) (dNil))))) (dB (dBin (fEq true) (dLc false (iSeq (dBin fIx (dV 0) (dC (.int 2)))) (cNm 2) (dYes) (dBin fIx (dV 2) (dC (.int 0))) [2]) (dLc false (iSeq (dBin fIx (dV 1) (dC (.int 2)))) (cNm 2) (dYes) (dBin fIx (dV 2) (dC (.int 0))) [2])))) (dRet (dC (.bl false))) (dPass)) (dSeq (dIfS (bNot (dTru (dCB fAll (dCons (dLc false (iZip2 (dCons (dBin fIx (dV 0) (dC (.int 1))) (dCons (dBin fIx (dV 1) (dC (.int 1))) (dNil)))) (cTup 2 (cCons (cNm 3) (cCons (cNm 4) (cNil)))) (dYes) (dCB F_raw_covers (dCons (dV 3) (dCons (dV 4) (dNil)))) [3, 4]) (dNil))))) (dRet (dC (.bl false))) (dPass)) (dSeq (dIfS (bNot (dTru (dCB fAll (dCons (dLc false (iZip2 (dCons (dBin fIx (dV 0) (dC (.int 2))) (dCons (dBin fIx (dV 1) (dC (.int 2))) (dNil)))) (cTup 2 (cCons (cNm 3) (cCons (cNm 4) (cNil)))) (dYes) (dCB F_raw_covers (dCons (dBin fIx (dV 3) (dC (.int 1))) (dCons (dBin fIx (dV 4) (dC (.int 1))) (dNil)))) [3, 4]) (dNil))))) (dRet (dC (.bl false))) (dPass)) (dRet (dCB F_raw_covers (dCons (dBin fIx (dV 1) (dC (.int 3))) (dCons (dBin fIx (dV 0) (dC (.int 3))) (dNil)))))))
def F_raw_backs : List PV → Sto → Res PV := runF 2 5 d_raw_backs
theorem sc_raw_backs : FnScope (["export", "wanted", "row", "its", "mine"] : List Str) (["export", "wanted"] : List Str) (defScope s_raw_backs) := ⟨rfl, rfl, rfl, by decide +kernel, rfl, by decide +kernel, by decide +kernel⟩
theorem fc_raw_backs {Z : Wd} (B : Bi Z.mg) (hT : Z.T.lm = none) (h_raw_covers : FC Z 2 "raw_covers" F_raw_covers) (D : DefOk Z "raw_backs" s_raw_backs) : FC Z 3 "raw_backs" F_raw_backs := by
  have Sc := sc_raw_backs
  exact D.fc Sc (fun _ _ _ _ _ _ us hl => match us, hl with | [_, _], _ => rfl) fun f cdv A outer s H E C => by exact (css_cons (cs_if (ct_w (cw_or (ct_cmp (op_neD (u64 C.u)) sn_ne (ce_callB (x := ("len" : Str)) call_len sl_len rfl B.b_len (by decide +kernel) (ca_cons (ce_ix (ce_v 0) ce_int (fun _ _ => rfl)) ca_nil)) (ce_callB (x := ("len" : Str)) call_len sl_len rfl B.b_len (by decide +kernel) (ca_cons (ce_ix (ce_v 1) ce_int (fun _ _ => rfl)) ca_nil)) rfl) (cw_or1 (ct_cmp (op_neD (u64 C.u)) sn_ne (ce_lcC false (fun h => nomatch h) C Sc.nd (ci_seq (ce_ix (ce_v 0) ce_int (fun _ _ => rfl))) (show BlkOk (["export", "wanted", "row", "its", "mine"] : List Str) (defScope s_raw_backs) _ [(("row" : Str), 2)] from blkOk_by (by decide +kernel)) (fun _ _ _ _ _ C => (pg_name (i := 2) Sc.nd rfl (Or.inl rfl) (Or.inr rfl))) (tgc_name (by decide)) (fun _ _ _ _ _ _ => pts_yes) (fun _ _ _ _ _ C => (ce_ix (ce_v 2) ce_int (fun _ _ => rfl)))) (ce_lcC false (fun h => nomatch h) C Sc.nd (ci_seq (ce_ix (ce_v 1) ce_int (fun _ _ => rfl))) (show BlkOk (["export", "wanted", "row", "its", "mine"] : List Str) (defScope s_raw_backs) _ [(("row" : Str), 2)] from blkOk_by (by decide +kernel)) (fun _ _ _ _ _ C => (pg_name (i := 2) Sc.nd rfl (Or.inl rfl) (Or.inr rfl))) (tgc_name (by decide)) (fun _ _ _ _ _ _ => pts_yes) (fun _ _ _ _ _ C => (ce_ix (ce_v 2) ce_int (fun _ _ => rfl)))) rfl)))) (css_one (cs_ret ce_bl)) css_nil) (css_cons (cs_if (ct_not (ct_tru (ce_callB (x := ("all" : Str)) (cr_all C.calm) sl_all rfl B.b_all (by decide +kernel) (ca_cons (ce_lcC false (fun h => nomatch h) C Sc.nd (ci_zip rfl B.b_zip (ca_cons (ce_ix (ce_v 0) ce_int (fun _ _ => rfl)) (ca_cons (ce_ix (ce_v 1) ce_int (fun _ _ => rfl)) ca_nil))) (show BlkOk (["export", "wanted", "row", "its", "mine"] : List Str) (defScope s_raw_backs) _ [(("its" : Str), 3), (("mine" : Str), 4)] from blkOk_by (by decide +kernel)) (fun _ _ _ _ _ C => (pg_tup C.calm (pgs_cons (pg_name (i := 3) Sc.nd rfl (Or.inl rfl) (Or.inr rfl)) (pgs_cons (pg_name (i := 4) Sc.nd rfl (Or.inl rfl) (Or.inr rfl)) pgs_nil rfl) rfl) rfl rfl)) (tgc_tup (tgcs_cons (tgc_name (by decide)) (tgcs_cons (tgc_name (by decide)) tgcs_nil))) (fun _ _ _ _ _ _ => pts_yes) (fun _ _ _ _ _ C => (ce_call h_raw_covers C (by decide) rfl (ca_cons (ce_v 3) (ca_cons (ce_v 4) ca_nil))))) ca_nil)))) (css_one (cs_ret ce_bl)) css_nil) (css_cons (cs_if (ct_not (ct_tru (ce_callB (x := ("all" : Str)) (cr_all C.calm) sl_all rfl B.b_all (by decide +kernel) (ca_cons (ce_lcC false (fun h => nomatch h) C Sc.nd (ci_zip rfl B.b_zip (ca_cons (ce_ix (ce_v 0) ce_int (fun _ _ => rfl)) (ca_cons (ce_ix (ce_v 1) ce_int (fun _ _ => rfl)) ca_nil))) (show BlkOk (["export", "wanted", "row", "its", "mine"] : List Str) (defScope s_raw_backs) _ [(("its" : Str), 3), (("mine" : Str), 4)] from blkOk_by (by decide +kernel)) (fun _ _ _ _ _ C => (pg_tup C.calm (pgs_cons (pg_name (i := 3) Sc.nd rfl (Or.inl rfl) (Or.inr rfl)) (pgs_cons (pg_name (i := 4) Sc.nd rfl (Or.inl rfl) (Or.inr rfl)) pgs_nil rfl) rfl) rfl rfl)) (tgc_tup (tgcs_cons (tgc_name (by decide)) (tgcs_cons (tgc_name (by decide)) tgcs_nil))) (fun _ _ _ _ _ _ => pts_yes) (fun _ _ _ _ _ C => (ce_call h_raw_covers C (by decide) rfl (ca_cons (ce_ix (ce_v 3) ce_int (fun _ _ => rfl)) (ca_cons (ce_ix (ce_v 4) ce_int (fun _ _ => rfl)) ca_nil))))) ca_nil)))) (css_one (cs_ret ce_bl)) css_nil) (css_one (cs_ret (ce_call h_raw_covers C (by decide) rfl (ca_cons (ce_ix (ce_v 1) ce_int (fun _ _ => rfl)) (ca_cons (ce_ix (ce_v 0) ce_int (fun _ _ => rfl)) ca_nil))))))))
/-! check_promise -/
abbrev s_check_promise : Stmt := top 29
def d_check_promise : EnP → Sto → SR := dIfS (bNot (dTru (dCB F_is_promise (dCons (dV 0) (dNil))))) (dRaise ("NoPromise" : Str)) (dPass)
def F_check_promise : List PV → Sto → Res PV := runF 1 1 d_check_promise
theorem sc_check_promise : FnScope (["thing"] : List Str) (["thing"] : List Str) (defScope s_check_promise) := ⟨rfl, rfl, rfl, by decide +kernel, rfl, by decide +kernel, by decide +kernel⟩
theorem fc_check_promise {Z : Wd} (B : Bi Z.mg) (hT : Z.T.lm = none) (e_NoPromise : EC Z.K Z.mg "NoPromise") (h_is_promise : FC Z 6 "is_promise" F_is_promise) (D : DefOk Z "check_promise" s_check_promise) : FC Z 7 "check_promise" F_check_promise := by
  have Sc := sc_check_promise
  exact D.fc Sc (fun _ _ _ _ _ _ us hl => match us, hl with | [_], _ => rfl) fun f cdv A outer s H E C => by exact (css_one (cs_if (ct_not (ct_tru (ce_call h_is_promise C (by decide) rfl (ca_cons (ce_v 0) ca_nil)))) (css_one (cs_raise0 e_NoPromise C.calm C.tk rfl)) css_nil))
/-! backs -/
abbrev s_backs : Stmt := top 30
def d_backs : EnP → Sto → SR := dSeq (dExpr (dCB F_check_promise (dCons (dV 0) (dNil)))) (dSeq (dExpr (dCB F_check_promise (dCons (dV 1) (dNil)))) (dRet (dCB F_raw_backs (dCons (dV 0) (dCons (dV 1) (dNil))))))
def F_backs : List PV → Sto → Res PV := runF 2 2 d_backs
theorem sc_backs : FnScope (["export", "wanted"] : List Str) (["export", "wanted"] : List Str) (defScope s_backs) := ⟨rfl, rfl, rfl, by decide +kernel, rfl, by decide +kernel, by decide +kernel⟩
theorem fc_backs {Z : Wd} (B : Bi Z.mg) (hT : Z.T.lm = none) (h_check_promise : FC Z 7 "check_promise" F_check_promise) (h_raw_backs : FC Z 3 "raw_backs" F_raw_backs) (D : DefOk Z "backs" s_backs) : FC Z 8 "backs" F_backs := by
  have Sc := sc_backs
  exact D.fc Sc (fun _ _ _ _ _ _ us hl => match us, hl with | [_, _], _ => rfl) fun f cdv A outer s H E C => by exact (css_cons (cs_expr (ce_call h_check_promise C (by decide) rfl (ca_cons (ce_v 0) ca_nil))) (css_cons (cs_expr (ce_call h_check_promise C (by decide) rfl (ca_cons (ce_v 1) ca_nil))) (css_one (cs_ret (ce_call h_raw_backs C (by decide) rfl (ca_cons (ce_v 0) (ca_cons (ce_v 1) ca_nil)))))))
/-! are_alike -/
abbrev s_are_alike : Stmt := top 37
def d_are_alike : EnP → Sto → SR := dRet (dAnd (dBin (fEq false) (dCB fLen (dCons (dBin fIx (dV 0) (dC (.int 1))) (dNil))) (dCB fLen (dCons (dBin fIx (dV 1) (dC (.int 1))) (dNil)))) (dBin (fEq false) (dLc false (iSeq (dBin fIx (dV 0) (dC (.int 2)))) (cNm 2) (dYes) (dBin fIx (dV 2) (dC (.int 0))) [2]) (dLc false (iSeq (dBin fIx (dV 1) (dC (.int 2)))) (cNm 2) (dYes) (dBin fIx (dV 2) (dC (.int 0))) [2])))
def F_are_alike : List PV → Sto → Res PV := runF 2 3 d_are_alike
theorem sc_are_alike : FnScope (["one", "other", "row"] : List Str) (["one", "other"] : List Str) (defScope s_are_alike) := ⟨rfl, rfl, rfl, by decide +kernel, rfl, by decide +kernel, by decide +kernel⟩
theorem fc_are_alike {Z : Wd} (B : Bi Z.mg) (hT : Z.T.lm = none) (D : DefOk Z "are_alike" s_are_alike) : FC Z 1 "are_alike" F_are_alike := by
  have Sc := sc_are_alike
  exact D.fc Sc (fun _ _ _ _ _ _ us hl => match us, hl with | [_, _], _ => rfl) fun f cdv A outer s H E C => by exact (css_one (cs_ret (ce_and (ce_cmp (op_eqD (u64 C.u)) sn_eq (ce_callB (x := ("len" : Str)) call_len sl_len rfl B.b_len (by decide +kernel) (ca_cons (ce_ix (ce_v 0) ce_int (fun _ _ => rfl)) ca_nil)) (ce_callB (x := ("len" : Str)) call_len sl_len rfl B.b_len (by decide +kernel) (ca_cons (ce_ix (ce_v 1) ce_int (fun _ _ => rfl)) ca_nil)) rfl) (ce_one (ce_cmp (op_eqD (u64 C.u)) sn_eq (ce_lcC false (fun h => nomatch h) C Sc.nd (ci_seq (ce_ix (ce_v 0) ce_int (fun _ _ => rfl))) (show BlkOk (["one", "other", "row"] : List Str) (defScope s_are_alike) _ [(("row" : Str), 2)] from blkOk_by (by decide +kernel)) (fun _ _ _ _ _ C => (pg_name (i := 2) Sc.nd rfl (Or.inl rfl) (Or.inr rfl))) (tgc_name (by decide)) (fun _ _ _ _ _ _ => pts_yes) (fun _ _ _ _ _ C => (ce_ix (ce_v 2) ce_int (fun _ _ => rfl)))) (ce_lcC false (fun h => nomatch h) C Sc.nd (ci_seq (ce_ix (ce_v 1) ce_int (fun _ _ => rfl))) (show BlkOk (["one", "other", "row"] : List Str) (defScope s_are_alike) _ [(("row" : Str), 2)] from blkOk_by (by decide +kernel)) (fun _ _ _ _ _ C => (pg_name (i := 2) Sc.nd rfl (Or.inl rfl) (Or.inr rfl))) (tgc_name (by decide)) (fun _ _ _ _ _ _ => pts_yes) (fun _ _ _ _ _ C => (ce_ix (ce_v 2) ce_int (fun _ _ => rfl)))) rfl)))))
/-! check_both -/
abbrev s_check_both : Stmt := top 38
def d_check_both : EnP → Sto → SR := dSeq (dExpr (dCB F_check_promise (dCons (dV 0) (dNil)))) (dExpr (dCB F_check_promise (dCons (dV 1) (dNil))))
def F_check_both : List PV → Sto → Res PV := runF 2 2 d_check_both
theorem sc_check_both : FnScope (["one", "other"] : List Str) (["one", "other"] : List Str) (defScope s_check_both) := ⟨rfl, rfl, rfl, by decide +kernel, rfl, by decide +kernel, by decide +kernel⟩
theorem fc_check_both {Z : Wd} (B : Bi Z.mg) (hT : Z.T.lm = none) (h_check_promise : FC Z 7 "check_promise" F_check_promise) (D : DefOk Z "check_both" s_check_both) : FC Z 8 "check_both" F_check_both := by
  have Sc := sc_check_both
  exact D.fc Sc (fun _ _ _ _ _ _ us hl => match us, hl with | [_, _], _ => rfl) fun f cdv A outer s H E C => by exact (css_cons (cs_expr (ce_call h_check_promise C (by decide) rfl (ca_cons (ce_v 0) ca_nil))) (css_one (cs_expr (ce_call h_check_promise C (by decide) rfl (ca_cons (ce_v 1) ca_nil)))))
/-! raw_shown -/
abbrev s_raw_shown : Stmt := top 39
def d_raw_shown : EnP → Sto → SR := dSeq (dIfS (bNot (dTru (dCB F_are_alike (dCons (dV 0) (dCons (dV 1) (dNil)))))) (dRet (dTup (dCons (dC (.str c_UNLIKE_WORD)) (dNil)))) (dPass)) (dSeq (dFor (iEnZ (dCons (dBin fIx (dV 0) (dC (.int 1))) (dCons (dBin fIx (dV 1) (dC (.int 1))) (dNil)))) (gTp 2 (gsCons (gNm 2) (gsCons (gTp 2 (gsCons (gNm 3) (gsCons (gNm 4) (gsNil)))) (gsNil)))) (dIfS (bNot (dTru (dCB F_raw_covers (dCons (dV 3) (dCons (dV 4) (dNil)))))) (dRet (dTup (dCons (dC (.str c_INS)) (dCons (dV 2) (dNil))))) (dPass))) (dSeq (dFor (iEnZ (dCons (dBin fIx (dV 0) (dC (.int 2))) (dCons (dBin fIx (dV 1) (dC (.int 2))) (dNil)))) (gTp 2 (gsCons (gNm 5) (gsCons (gTp 2 (gsCons (gNm 3) (gsCons (gNm 4) (gsNil)))) (gsNil)))) (dIfS (bNot (dTru (dCB F_raw_covers (dCons (dBin fIx (dV 3) (dC (.int 1))) (dCons (dBin fIx (dV 4) (dC (.int 1))) (dNil)))))) (dRet (dTup (dCons (dC (.str c_ROWS)) (dCons (dV 5) (dNil))))) (dPass))) (dRet (dIf (dTru (dCB F_raw_covers (dCons (dBin fIx (dV 1) (dC (.int 3))) (dCons (dBin fIx (dV 0) (dC (.int 3))) (dNil))))) (dTup (dCons (dC (.str c_BACKS)) (dNil))) (dTup (dCons (dC (.str c_OUT)) (dNil)))))))
def F_raw_shown : List PV → Sto → Res PV := runF 2 6 d_raw_shown
theorem sc_raw_shown : FnScope (["export", "wanted", "i", "its", "mine", "j"] : List Str) (["export", "wanted"] : List Str) (defScope s_raw_shown) := ⟨rfl, rfl, rfl, by decide +kernel, rfl, by decide +kernel, by decide +kernel⟩
theorem fc_raw_shown {Z : Wd} (B : Bi Z.mg) (hT : Z.T.lm = none) (h_UNLIKE_WORD : ∃ t, Z.mg "UNLIKE_WORD" = some (.str c_UNLIKE_WORD t)) (h_INS : ∃ t, Z.mg "INS" = some (.str c_INS t)) (h_ROWS : ∃ t, Z.mg "ROWS" = some (.str c_ROWS t)) (h_BACKS : ∃ t, Z.mg "BACKS" = some (.str c_BACKS t)) (h_OUT : ∃ t, Z.mg "OUT" = some (.str c_OUT t)) (h_are_alike : FC Z 1 "are_alike" F_are_alike) (h_raw_covers : FC Z 2 "raw_covers" F_raw_covers) (D : DefOk Z "raw_shown" s_raw_shown) : FC Z 3 "raw_shown" F_raw_shown := by
  have Sc := sc_raw_shown
  exact D.fc Sc (fun _ _ _ _ _ _ us hl => match us, hl with | [_, _], _ => rfl) fun f cdv A outer s H E C => by exact (css_cons (cs_if (ct_not (ct_tru (ce_call h_are_alike C (by decide) rfl (ca_cons (ce_v 0) (ca_cons (ce_v 1) ca_nil))))) (css_one (cs_ret (ce_tup (ca_cons (ce_gS h_UNLIKE_WORD rfl) ca_nil)))) css_nil) (css_cons (cs_for C.po C.calm (ci_enzip rfl (B.get (x := ("enumerate" : Str)) (by decide)) rfl B.b_zip (ca_cons (ce_ix (ce_v 0) ce_int (fun _ _ => rfl)) (ca_cons (ce_ix (ce_v 1) ce_int (fun _ _ => rfl)) ca_nil))) (cg_tup C.calm (cgs_cons (fun _ _ _ _ _ h => h) (cg_name (i := 2) Sc.nd rfl (Or.inl rfl)) (cgs_cons (fun _ _ _ _ _ h => h) (cg_tup C.calm (cgs_cons (fun _ _ _ _ _ h => h) (cg_name (i := 3) Sc.nd rfl (Or.inl rfl)) (cgs_cons (fun _ _ _ _ _ h => h) (cg_name (i := 4) Sc.nd rfl (Or.inl rfl)) cgs_nil))) cgs_nil))) (css_one (cs_if (ct_not (ct_tru (ce_call h_raw_covers C (by decide) rfl (ca_cons (ce_v 3) (ca_cons (ce_v 4) ca_nil))))) (css_one (cs_ret (ce_tup (ca_cons (ce_gS h_INS rfl) (ca_cons (ce_v 2) ca_nil))))) css_nil))) (css_cons (cs_for C.po C.calm (ci_enzip rfl (B.get (x := ("enumerate" : Str)) (by decide)) rfl B.b_zip (ca_cons (ce_ix (ce_v 0) ce_int (fun _ _ => rfl)) (ca_cons (ce_ix (ce_v 1) ce_int (fun _ _ => rfl)) ca_nil))) (cg_tup C.calm (cgs_cons (fun _ _ _ _ _ h => h) (cg_name (i := 5) Sc.nd rfl (Or.inl rfl)) (cgs_cons (fun _ _ _ _ _ h => h) (cg_tup C.calm (cgs_cons (fun _ _ _ _ _ h => h) (cg_name (i := 3) Sc.nd rfl (Or.inl rfl)) (cgs_cons (fun _ _ _ _ _ h => h) (cg_name (i := 4) Sc.nd rfl (Or.inl rfl)) cgs_nil))) cgs_nil))) (css_one (cs_if (ct_not (ct_tru (ce_call h_raw_covers C (by decide) rfl (ca_cons (ce_ix (ce_v 3) ce_int (fun _ _ => rfl)) (ca_cons (ce_ix (ce_v 4) ce_int (fun _ _ => rfl)) ca_nil))))) (css_one (cs_ret (ce_tup (ca_cons (ce_gS h_ROWS rfl) (ca_cons (ce_v 5) ca_nil))))) css_nil))) (css_one (cs_ret (ce_if (ct_tru (ce_call h_raw_covers C (by decide) rfl (ca_cons (ce_ix (ce_v 1) ce_int (fun _ _ => rfl)) (ca_cons (ce_ix (ce_v 0) ce_int (fun _ _ => rfl)) ca_nil)))) (ce_tup (ca_cons (ce_gS h_BACKS rfl) ca_nil)) (ce_tup (ca_cons (ce_gS h_OUT rfl) ca_nil))))))))
/-! backing_shown -/
abbrev s_backing_shown : Stmt := top 40
def d_backing_shown : EnP → Sto → SR := dSeq (dExpr (dCB F_check_both (dCons (dV 0) (dCons (dV 1) (dNil))))) (dRet (dCB F_raw_shown (dCons (dV 0) (dCons (dV 1) (dNil)))))
def F_backing_shown : List PV → Sto → Res PV := runF 2 2 d_backing_shown
theorem sc_backing_shown : FnScope (["export", "wanted"] : List Str) (["export", "wanted"] : List Str) (defScope s_backing_shown) := ⟨rfl, rfl, rfl, by decide +kernel, rfl, by decide +kernel, by decide +kernel⟩
theorem fc_backing_shown {Z : Wd} (B : Bi Z.mg) (hT : Z.T.lm = none) (h_check_both : FC Z 8 "check_both" F_check_both) (h_raw_shown : FC Z 3 "raw_shown" F_raw_shown) (D : DefOk Z "backing_shown" s_backing_shown) : FC Z 9 "backing_shown" F_backing_shown := by
  have Sc := sc_backing_shown
  exact D.fc Sc (fun _ _ _ _ _ _ us hl => match us, hl with | [_, _], _ => rfl) fun f cdv A outer s H E C => by exact (css_cons (cs_expr (ce_call h_check_both C (by decide) rfl (ca_cons (ce_v 0) (ca_cons (ce_v 1) ca_nil)))) (css_one (cs_ret (ce_call h_raw_shown C (by decide) rfl (ca_cons (ce_v 0) (ca_cons (ce_v 1) ca_nil))))))
/-! is_backing_shown -/
abbrev s_is_backing_shown : Stmt := top 41
def d_is_backing_shown : EnP → Sto → SR := dSeq (dExpr (dCB F_check_both (dCons (dV 0) (dCons (dV 1) (dNil))))) (dRet (dAnd (dCB fIsi (dCons (dV 2) (dCons (dC (.ty "tuple")) (dNil)))) (dBin (fEq false) (dCB fRepr (dCons (dV 2) (dNil))) (dCB fRepr (dCons (dCB F_raw_shown (dCons (dV 0) (dCons (dV 1) (dNil)))) (dNil))))))
def F_is_backing_shown : List PV → Sto → Res PV := runF 3 3 d_is_backing_shown
theorem sc_is_backing_shown : FnScope (["export", "wanted", "thing"] : List Str) (["export", "wanted", "thing"] : List Str) (defScope s_is_backing_shown) := ⟨rfl, rfl, rfl, by decide +kernel, rfl, by decide +kernel, by decide +kernel⟩
theorem fc_is_backing_shown {Z : Wd} (B : Bi Z.mg) (hT : Z.T.lm = none) (h_check_both : FC Z 8 "check_both" F_check_both) (h_raw_shown : FC Z 3 "raw_shown" F_raw_shown) (D : DefOk Z "is_backing_shown" s_is_backing_shown) : FC Z 9 "is_backing_shown" F_is_backing_shown := by
  have Sc := sc_is_backing_shown
  exact D.fc Sc (fun _ _ _ _ _ _ us hl => match us, hl with | [_, _, _], _ => rfl) fun f cdv A outer s H E C => by exact (css_cons (cs_expr (ce_call h_check_both C (by decide) rfl (ca_cons (ce_v 0) (ca_cons (ce_v 1) ca_nil)))) (css_one (cs_ret (ce_and (ce_callB (x := ("isinstance" : Str)) call_isi sl_isi rfl B.b_isinstance PyProof.Rows.boot_isinstance (ca_cons (ce_v 2) (ca_cons (ce_bty rfl B.b_tuple PyProof.Rows.boot_tuple) ca_nil))) (ce_one (ce_cmp (op_eqD (u64 C.u)) sn_eq (ce_callB (x := ("repr" : Str)) (call_reprD C.gd (u80 C.u)) sl_repr rfl B.b_repr PyProof.Rows.boot_repr (ca_cons (ce_v 2) ca_nil)) (ce_callB (x := ("repr" : Str)) (call_reprD C.gd (u80 C.u)) sl_repr rfl B.b_repr PyProof.Rows.boot_repr (ca_cons (ce_call h_raw_shown C (by decide) rfl (ca_cons (ce_v 0) (ca_cons (ce_v 1) ca_nil))) ca_nil)) rfl))))))
/-! _law_hand -/
abbrev s_law_hand_L : Stmt := top 43
def d_law_hand_L : EnP → Sto → SR := dSeq (dSet 1 (dLc false (iSeq (dSl false (dV 0) (dNoPart) (dPart (dC (.int 63))))) (cNm 2) (dYes) (dBin fMod (dCB fInt (dCons (dCB fAbs (dCons (dCB fInt (dCons (dV 2) (dNil))) (dNil))) (dNil))) (dBin fPow (dC (.int 10)) (dC (.int 36)))) [2])) (dRet (dLst true (dCons (dV 1) (dCons (dC (.int 0)) (dCons (dC (.int 0)) (dCons (dBin (fAdd false) (dC (.int 72)) (dBin (fMul false) (dC (.int 5)) (dCB fLen (dCons (dV 1) (dNil))))) (dCons (dC (.int 0)) (dNil))))))))
def F_law_hand_L : List PV → Sto → Res PV := runF 1 3 d_law_hand_L
theorem sc_law_hand_L : FnScope (["script", "cells", "cell"] : List Str) (["script"] : List Str) (defScope s_law_hand_L) := ⟨rfl, rfl, rfl, by decide +kernel, rfl, by decide +kernel, by decide +kernel⟩
theorem fc_law_hand_L {Z : Wd} (B : Bi Z.mg) (hT : Z.T.lm = none) (D : DefOk Z "_law_hand" s_law_hand_L) : FC Z 1 "_law_hand" F_law_hand_L := by
  have Sc := sc_law_hand_L
  exact D.fc Sc (fun _ _ _ _ _ _ us hl => match us, hl with | [_], _ => rfl) fun f cdv A outer s H E C => by exact (css_cons (cs_lcC false (fun h => nomatch h) C Sc.nd rfl rfl (sw_true rfl rfl rfl rfl) (ci_seq (ce_sl false (fun h => nomatch h) (ce_v 0) co_none (co_some ce_int))) (show BlkOk (["script", "cells", "cell"] : List Str) (defScope s_law_hand_L) _ [(("cell" : Str), 2)] from blkOk_by (by decide +kernel)) (fun _ _ _ _ _ C => (pg_name (i := 2) Sc.nd rfl (Or.inl rfl) (Or.inr rfl))) (tgc_name (by decide)) (fun _ _ _ _ _ _ => pts_yes) (fun _ _ _ _ _ C => (ce_bin op_modN sn_mod (ce_callTy call_int1 sl_int rfl B.b_int PyProof.Rows.boot_int (ca_cons (ce_callB (x := ("abs" : Str)) call_abs sl_abs rfl B.b_abs PyProof.Rows.boot_abs (ca_cons (ce_callTy call_int1 sl_int rfl B.b_int PyProof.Rows.boot_int (ca_cons (ce_v 2) ca_nil)) ca_nil)) ca_nil)) (ce_bin op_pow sn_pow ce_int ce_int)))) (css_one (cs_ret (ce_lst true (fun _ => gm_bare C.room.hd hT) (ca_cons (ce_v 1) (ca_cons ce_int (ca_cons ce_int (ca_cons (ce_bin op_addM (sn_add false (fun h => nomatch h)) ce_int (ce_bin op_mulM (sn_mul false (fun h => nomatch h)) ce_int (ce_callB (x := ("len" : Str)) call_len sl_len rfl B.b_len (by decide +kernel) (ca_cons (ce_v 1) ca_nil)))) (ca_cons ce_int ca_nil)))))))))
/-! _law_draw -/
abbrev s_law_draw_L : Stmt := top 44
def d_law_draw_L : EnP → Sto → SR := dSeq (dIfS (bAnd (dB (dBin (fEq false) (dBin fIx (dV 0) (dC (.int 2))) (dC (.int 0)))) (dB (dBin (fCmpI iLt) (dBin fIx (dV 0) (dC (.int 1))) (dCB fLen (dCons (dBin fIx (dV 0) (dC (.int 0))) (dNil)))))) (dSeq (dSet 2 (dBin fIx (dBin fIx (dV 0) (dC (.int 0))) (dBin fIx (dV 0) (dC (.int 1))))) (dSeq (dAsg (dBin (fAdd false) (dBin fIx (dV 0) (dC (.int 1))) (dC (.int 1))) (gIx (dV 0) (dC (.int 1)))) (dSeq (dAsg (dBin fMod (dCB fInt (dCons (dBin (fAdd false) (dBin (fAdd false) (dBin (fMul false) (dBin fIx (dV 0) (dC (.int 3))) (dC (.int 69621))) (dBin (fMul false) (dV 2) (dC (.int 40692)))) (dC (.int 37))) (dNil))) (dC (.int 2147483629))) (gIx (dV 0) (dC (.int 3)))) (dIfS (dB (dBin (fCmpI iGe) (dV 2) (dBin fPow (dC (.int 10)) (dC (.int 18))))) (dAsg (dV 2) (gIx (dV 0) (dC (.int 2)))) (dPass))))) (dPass)) (dSeq (dIfS (dB (dBin (fCmpI iGt) (dBin fIx (dV 0) (dC (.int 2))) (dC (.int 0)))) (dSeq (dSet 3 (dBin fMod (dCB fInt (dCons (dBin fIx (dV 0) (dC (.int 2))) (dNil))) (dV 1))) (dSeq (dAsg (dBin fDiv (dBin fIx (dV 0) (dC (.int 2))) (dV 1)) (gIx (dV 0) (dC (.int 2)))) (dRet (dV 3)))) (dPass)) (dSeq (dAsg (dBin (fAdd false) (dBin fIx (dV 0) (dC (.int 4))) (dC (.int 1))) (gIx (dV 0) (dC (.int 4)))) (dSeq (dSet 4 (dBin fMod (dCB fInt (dCons (dBin (fMul false) (dCB fInt (dCons (dBin (fAdd false) (dBin fIx (dV 0) (dC (.int 3))) (dBin (fMul false) (dC (.int 7919)) (dBin fIx (dV 0) (dC (.int 4))))) (dNil))) (dC (.int 48271))) (dNil))) (dC (.int 2147483647)))) (dSeq (dSet 4 (dBin fMod (dCB fInt (dCons (dBin (fMul false) (dV 4) (dBin (fAdd false) (dBin fDiv (dV 4) (dC (.int 1009))) (dC (.int 69621)))) (dNil))) (dC (.int 2147483647)))) (dSeq (dSet 4 (dBin fMod (dCB fInt (dCons (dBin (fMul false) (dV 4) (dBin (fAdd false) (dBin fDiv (dV 4) (dC (.int 2003))) (dC (.int 40014)))) (dNil))) (dC (.int 2147483563)))) (dRet (dBin fMod (dCB fInt (dCons (dBin fDiv (dV 4) (dC (.int 16))) (dNil))) (dV 1))))))))
def F_law_draw_L : List PV → Sto → Res PV := runF 2 5 d_law_draw_L
theorem sc_law_draw_L : FnScope (["hand", "below", "cell", "digit", "mixed"] : List Str) (["hand", "below"] : List Str) (defScope s_law_draw_L) := ⟨rfl, rfl, rfl, by decide +kernel, rfl, by decide +kernel, by decide +kernel⟩
theorem fc_law_draw_L {Z : Wd} (B : Bi Z.mg) (hT : Z.T.lm = none) (D : DefOk Z "_law_draw" s_law_draw_L) : FC Z 1 "_law_draw" F_law_draw_L := by
  have Sc := sc_law_draw_L
  exact D.fc Sc (fun _ _ _ _ _ _ us hl => match us, hl with | [_, _], _ => rfl) fun f cdv A outer s H E C => by exact (css_cons (cs_if (ct_w (cw_and (ct_cmp (op_eqD (u64 C.u)) sn_eq (ce_ix (ce_v 0) ce_int (fun _ _ => rfl)) ce_int rfl) (cw_and1 (ct_cmp op_lt (sn_cmpI iLt) (ce_ix (ce_v 0) ce_int (fun _ _ => rfl)) (ce_callB (x := ("len" : Str)) call_len sl_len rfl B.b_len (by decide +kernel) (ca_cons (ce_ix (ce_v 0) ce_int (fun _ _ => rfl)) ca_nil)) rfl)))) (css_cons (cs_set (i := 2) Sc.nd rfl (Or.inl rfl) (ce_ix (ce_ix (ce_v 0) ce_int (fun _ _ => rfl)) (ce_ix (ce_v 0) ce_int (fun _ _ => rfl)) (fun _ _ => rfl))) (css_cons (cs_asg (ce_bin op_addM (sn_add false (fun h => nomatch h)) (ce_ix (ce_v 0) ce_int (fun _ _ => rfl)) ce_int) (cg_ix (gm_bare C.room.hd hT) (ce_v 0) ce_int)) (css_cons (cs_asg (ce_bin op_modN sn_mod (ce_callTy call_int1 sl_int rfl B.b_int PyProof.Rows.boot_int (ca_cons (ce_bin op_addM (sn_add false (fun h => nomatch h)) (ce_bin op_addM (sn_add false (fun h => nomatch h)) (ce_bin op_mulM (sn_mul false (fun h => nomatch h)) (ce_ix (ce_v 0) ce_int (fun _ _ => rfl)) ce_int) (ce_bin op_mulM (sn_mul false (fun h => nomatch h)) (ce_v 2) ce_int)) ce_int) ca_nil)) ce_int) (cg_ix (gm_bare C.room.hd hT) (ce_v 0) ce_int)) (css_one (cs_if (ct_cmp op_ge (sn_cmpI iGe) (ce_v 2) (ce_bin op_pow sn_pow ce_int ce_int) rfl) (css_one (cs_asg (ce_v 2) (cg_ix (gm_bare C.room.hd hT) (ce_v 0) ce_int))) css_nil))))) css_nil) (css_cons (cs_if (ct_cmp op_gt (sn_cmpI iGt) (ce_ix (ce_v 0) ce_int (fun _ _ => rfl)) ce_int rfl) (css_cons (cs_set (i := 3) Sc.nd rfl (Or.inl rfl) (ce_bin op_modN sn_mod (ce_callTy call_int1 sl_int rfl B.b_int PyProof.Rows.boot_int (ca_cons (ce_ix (ce_v 0) ce_int (fun _ _ => rfl)) ca_nil)) (ce_v 1))) (css_cons (cs_asg (ce_bin op_fdivA sn_div (ce_ix (ce_v 0) ce_int (fun _ _ => rfl)) (ce_v 1)) (cg_ix (gm_bare C.room.hd hT) (ce_v 0) ce_int)) (css_one (cs_ret (ce_v 3))))) css_nil) (css_cons (cs_asg (ce_bin op_addM (sn_add false (fun h => nomatch h)) (ce_ix (ce_v 0) ce_int (fun _ _ => rfl)) ce_int) (cg_ix (gm_bare C.room.hd hT) (ce_v 0) ce_int)) (css_cons (cs_set (i := 4) Sc.nd rfl (Or.inl rfl) (ce_bin op_modN sn_mod (ce_callTy call_int1 sl_int rfl B.b_int PyProof.Rows.boot_int (ca_cons (ce_bin op_mulM (sn_mul false (fun h => nomatch h)) (ce_callTy call_int1 sl_int rfl B.b_int PyProof.Rows.boot_int (ca_cons (ce_bin op_addM (sn_add false (fun h => nomatch h)) (ce_ix (ce_v 0) ce_int (fun _ _ => rfl)) (ce_bin op_mulM (sn_mul false (fun h => nomatch h)) ce_int (ce_ix (ce_v 0) ce_int (fun _ _ => rfl)))) ca_nil)) ce_int) ca_nil)) ce_int)) (css_cons (cs_set (i := 4) Sc.nd rfl (Or.inl rfl) (ce_bin op_modN sn_mod (ce_callTy call_int1 sl_int rfl B.b_int PyProof.Rows.boot_int (ca_cons (ce_bin op_mulM (sn_mul false (fun h => nomatch h)) (ce_v 4) (ce_bin op_addM (sn_add false (fun h => nomatch h)) (ce_bin op_fdivA sn_div (ce_v 4) ce_int) ce_int)) ca_nil)) ce_int)) (css_cons (cs_set (i := 4) Sc.nd rfl (Or.inl rfl) (ce_bin op_modN sn_mod (ce_callTy call_int1 sl_int rfl B.b_int PyProof.Rows.boot_int (ca_cons (ce_bin op_mulM (sn_mul false (fun h => nomatch h)) (ce_v 4) (ce_bin op_addM (sn_add false (fun h => nomatch h)) (ce_bin op_fdivA sn_div (ce_v 4) ce_int) ce_int)) ca_nil)) ce_int)) (css_one (cs_ret (ce_bin op_modN sn_mod (ce_callTy call_int1 sl_int rfl B.b_int PyProof.Rows.boot_int (ca_cons (ce_bin op_fdivA sn_div (ce_v 4) ce_int) ca_nil)) (ce_v 1))))))))))
/-! _law_any -/
abbrev s_law_any_L : Stmt := top 45
def d_law_any_L : EnP → Sto → SR := dRet (dBin fIx (dV 1) (dCB F_law_draw_L (dCons (dV 0) (dCons (dCB fLen (dCons (dV 1) (dNil))) (dNil)))))
def F_law_any_L : List PV → Sto → Res PV := runF 2 2 d_law_any_L
theorem sc_law_any_L : FnScope (["hand", "some"] : List Str) (["hand", "some"] : List Str) (defScope s_law_any_L) := ⟨rfl, rfl, rfl, by decide +kernel, rfl, by decide +kernel, by decide +kernel⟩
theorem fc_law_any_L {Z : Wd} (B : Bi Z.mg) (hT : Z.T.lm = none) (h_law_draw_L : FC Z 1 "_law_draw" F_law_draw_L) (D : DefOk Z "_law_any" s_law_any_L) : FC Z 2 "_law_any" F_law_any_L := by
  have Sc := sc_law_any_L
  exact D.fc Sc (fun _ _ _ _ _ _ us hl => match us, hl with | [_, _], _ => rfl) fun f cdv A outer s H E C => by exact (css_one (cs_ret (ce_ix (ce_v 1) (ce_call h_law_draw_L C (by decide) rfl (ca_cons (ce_v 0) (ca_cons (ce_callB (x := ("len" : Str)) call_len sl_len rfl B.b_len (by decide +kernel) (ca_cons (ce_v 1) ca_nil)) ca_nil))) (fun _ _ => rfl))))
/-! _law_low -/
abbrev s_law_low_L : Stmt := top 46
def d_law_low_L : EnP → Sto → SR := dSeq (dPar 2 3 (dCons (dCB fAbs (dCons (dV 0) (dNil))) (dCons (dV 1) (dNil)))) (dSeq (whileP (dB (dBin (fCmpI iGt) (dV 3) (dC (.int 0)))) (dPar 2 3 (dCons (dV 3) (dCons (dBin fMod (dCB fInt (dCons (dV 2) (dNil))) (dV 3)) (dNil)))) fuel) (dRet (dTup (dCons (dBin fDiv (dV 0) (dV 2)) (dCons (dBin fDiv (dV 1) (dV 2)) (dNil))))))
def F_law_low_L : List PV → Sto → Res PV := runF 2 4 d_law_low_L
theorem sc_law_low_L : FnScope (["top", "bottom", "one", "other"] : List Str) (["top", "bottom"] : List Str) (defScope s_law_low_L) := ⟨rfl, rfl, rfl, by decide +kernel, rfl, by decide +kernel, by decide +kernel⟩
theorem fc_law_low_L {Z : Wd} (B : Bi Z.mg) (hT : Z.T.lm = none) (D : DefOk Z "_law_low" s_law_low_L) : FC Z 1 "_law_low" F_law_low_L := by
  have Sc := sc_law_low_L
  exact D.fc Sc (fun _ _ _ _ _ _ us hl => match us, hl with | [_, _], _ => rfl) fun f cdv A outer s H E C => by exact (css_cons (cs_par (i := 2) (j := 3) C.calm Sc.nd rfl rfl (by decide) rfl rfl (ca_cons (ce_callB (x := ("abs" : Str)) call_abs sl_abs rfl B.b_abs PyProof.Rows.boot_abs (ca_cons (ce_v 0) ca_nil)) (ca_cons (ce_v 1) ca_nil)) rfl) (css_cons (cs_while fuel C.po (ct_cmp op_gt (sn_cmpI iGt) (ce_v 3) ce_int rfl) (css_one (cs_par (i := 2) (j := 3) C.calm Sc.nd rfl rfl (by decide) rfl rfl (ca_cons (ce_v 3) (ca_cons (ce_bin op_modN sn_mod (ce_callTy call_int1 sl_int rfl B.b_int PyProof.Rows.boot_int (ca_cons (ce_v 2) ca_nil)) (ce_v 3)) ca_nil)) rfl))) (css_one (cs_ret (ce_tup (ca_cons (ce_bin op_fdivA sn_div (ce_v 0) (ce_v 2)) (ca_cons (ce_bin op_fdivA sn_div (ce_v 1) (ce_v 2)) ca_nil)))))))
/-! _law_plus -/
abbrev s_law_plus_L : Stmt := top 47
def d_law_plus_L : EnP → Sto → SR := dRet (dCB F_law_low_L (dCons (dBin (fAdd false) (dBin (fMul false) (dBin fIx (dV 0) (dC (.int 0))) (dBin fIx (dV 1) (dC (.int 1)))) (dBin (fMul false) (dBin fIx (dV 1) (dC (.int 0))) (dBin fIx (dV 0) (dC (.int 1))))) (dCons (dBin (fMul false) (dBin fIx (dV 0) (dC (.int 1))) (dBin fIx (dV 1) (dC (.int 1)))) (dNil))))
def F_law_plus_L : List PV → Sto → Res PV := runF 2 2 d_law_plus_L
theorem sc_law_plus_L : FnScope (["one", "other"] : List Str) (["one", "other"] : List Str) (defScope s_law_plus_L) := ⟨rfl, rfl, rfl, by decide +kernel, rfl, by decide +kernel, by decide +kernel⟩
theorem fc_law_plus_L {Z : Wd} (B : Bi Z.mg) (hT : Z.T.lm = none) (h_law_low_L : FC Z 1 "_law_low" F_law_low_L) (D : DefOk Z "_law_plus" s_law_plus_L) : FC Z 2 "_law_plus" F_law_plus_L := by
  have Sc := sc_law_plus_L
  exact D.fc Sc (fun _ _ _ _ _ _ us hl => match us, hl with | [_, _], _ => rfl) fun f cdv A outer s H E C => by exact (css_one (cs_ret (ce_call h_law_low_L C (by decide) rfl (ca_cons (ce_bin op_addM (sn_add false (fun h => nomatch h)) (ce_bin op_mulM (sn_mul false (fun h => nomatch h)) (ce_ix (ce_v 0) ce_int (fun _ _ => rfl)) (ce_ix (ce_v 1) ce_int (fun _ _ => rfl))) (ce_bin op_mulM (sn_mul false (fun h => nomatch h)) (ce_ix (ce_v 1) ce_int (fun _ _ => rfl)) (ce_ix (ce_v 0) ce_int (fun _ _ => rfl)))) (ca_cons (ce_bin op_mulM (sn_mul false (fun h => nomatch h)) (ce_ix (ce_v 0) ce_int (fun _ _ => rfl)) (ce_ix (ce_v 1) ce_int (fun _ _ => rfl))) ca_nil)))))
/-! _law_hold -/
abbrev s_law_hold_L : Stmt := top 48
def d_law_hold_L : EnP → Sto → SR := dSeq (dSet 1 (dCB F_law_low_L (dCons (dBin fSub (dCB F_law_draw_L (dCons (dV 0) (dCons (dC (.int 9)) (dNil)))) (dC (.int 4))) (dCons (dBin (fAdd false) (dC (.int 1)) (dCB F_law_draw_L (dCons (dV 0) (dCons (dC (.int 2)) (dNil))))) (dNil))))) (dSeq (dSet 2 (dCB F_law_low_L (dCons (dCB F_law_draw_L (dCons (dV 0) (dCons (dC (.int 5)) (dNil)))) (dCons (dBin (fAdd false) (dC (.int 1)) (dCB F_law_draw_L (dCons (dV 0) (dCons (dC (.int 2)) (dNil))))) (dNil))))) (dRet (dTup (dCons (dV 1) (dCons (dCB F_law_plus_L (dCons (dV 1) (dCons (dV 2) (dNil)))) (dCons (dCB F_law_low_L (dCons (dCB F_law_draw_L (dCons (dV 0) (dCons (dC (.int 4)) (dNil)))) (dCons (dBin (fAdd false) (dC (.int 1)) (dCB F_law_draw_L (dCons (dV 0) (dCons (dC (.int 8)) (dNil))))) (dNil)))) (dNil)))))))
def F_law_hold_L : List PV → Sto → Res PV := runF 1 3 d_law_hold_L
theorem sc_law_hold_L : FnScope (["hand", "low", "wide"] : List Str) (["hand"] : List Str) (defScope s_law_hold_L) := ⟨rfl, rfl, rfl, by decide +kernel, rfl, by decide +kernel, by decide +kernel⟩
theorem fc_law_hold_L {Z : Wd} (B : Bi Z.mg) (hT : Z.T.lm = none) (h_law_low_L : FC Z 1 "_law_low" F_law_low_L) (h_law_draw_L : FC Z 1 "_law_draw" F_law_draw_L) (h_law_plus_L : FC Z 2 "_law_plus" F_law_plus_L) (D : DefOk Z "_law_hold" s_law_hold_L) : FC Z 3 "_law_hold" F_law_hold_L := by
  have Sc := sc_law_hold_L
  exact D.fc Sc (fun _ _ _ _ _ _ us hl => match us, hl with | [_], _ => rfl) fun f cdv A outer s H E C => by exact (css_cons (cs_set (i := 1) Sc.nd rfl (Or.inl rfl) (ce_call h_law_low_L C (by decide) rfl (ca_cons (ce_bin op_sub sn_sub (ce_call h_law_draw_L C (by decide) rfl (ca_cons (ce_v 0) (ca_cons ce_int ca_nil))) ce_int) (ca_cons (ce_bin op_addM (sn_add false (fun h => nomatch h)) ce_int (ce_call h_law_draw_L C (by decide) rfl (ca_cons (ce_v 0) (ca_cons ce_int ca_nil)))) ca_nil)))) (css_cons (cs_set (i := 2) Sc.nd rfl (Or.inl rfl) (ce_call h_law_low_L C (by decide) rfl (ca_cons (ce_call h_law_draw_L C (by decide) rfl (ca_cons (ce_v 0) (ca_cons ce_int ca_nil))) (ca_cons (ce_bin op_addM (sn_add false (fun h => nomatch h)) ce_int (ce_call h_law_draw_L C (by decide) rfl (ca_cons (ce_v 0) (ca_cons ce_int ca_nil)))) ca_nil)))) (css_one (cs_ret (ce_tup (ca_cons (ce_v 1) (ca_cons (ce_call h_law_plus_L C (by decide) rfl (ca_cons (ce_v 1) (ca_cons (ce_v 2) ca_nil))) (ca_cons (ce_call h_law_low_L C (by decide) rfl (ca_cons (ce_call h_law_draw_L C (by decide) rfl (ca_cons (ce_v 0) (ca_cons ce_int ca_nil))) (ca_cons (ce_bin op_addM (sn_add false (fun h => nomatch h)) ce_int (ce_call h_law_draw_L C (by decide) rfl (ca_cons (ce_v 0) (ca_cons ce_int ca_nil)))) ca_nil))) ca_nil))))))))
/-! _law_promise -/
abbrev s_law_promise_L : Stmt := top 49
def d_law_promise_L : EnP → Sto → SR := dSeq (dSet 1 (dCB fTuple (dCons (dLc false (iRange (dCons (dCB F_law_draw_L (dCons (dV 0) (dCons (dC (.int 3)) (dNil)))) (dNil))) (cNm 2) (dYes) (dCB F_law_hold_L (dCons (dV 0) (dNil))) [2]) (dNil)))) (dSeq (dSet 3 (dCB fTuple (dCons (dLc false (iRange (dCons (dCB F_law_draw_L (dCons (dV 0) (dCons (dC (.int 3)) (dNil)))) (dNil))) (cNm 4) (dYes) (dTup (dCons (dBin (fAdd false) (dC (.int 1)) (dCB F_law_draw_L (dCons (dV 0) (dCons (dC (.int 3)) (dNil))))) (dCons (dCB F_law_hold_L (dCons (dV 0) (dNil))) (dNil)))) [4]) (dNil)))) (dRet (dTup (dCons (dCB F_law_any_L (dCons (dV 0) (dCons (dLst false (dCons (dC (.str ("a" : Str))) (dCons (dC (.str ("bb" : Str))) (dCons (dC (.str ("proc" : Str))) (dNil))))) (dNil)))) (dCons (dV 1) (dCons (dV 3) (dCons (dCB F_law_hold_L (dCons (dV 0) (dNil))) (dNil))))))))
def F_law_promise_L : List PV → Sto → Res PV := runF 1 5 d_law_promise_L
theorem sc_law_promise_L : FnScope (["hand", "ins", "one", "rows", "row"] : List Str) (["hand"] : List Str) (defScope s_law_promise_L) := ⟨rfl, rfl, rfl, by decide +kernel, rfl, by decide +kernel, by decide +kernel⟩
theorem fc_law_promise_L {Z : Wd} (B : Bi Z.mg) (hT : Z.T.lm = none) (h_law_draw_L : FC Z 1 "_law_draw" F_law_draw_L) (h_law_hold_L : FC Z 3 "_law_hold" F_law_hold_L) (h_law_any_L : FC Z 2 "_law_any" F_law_any_L) (D : DefOk Z "_law_promise" s_law_promise_L) : FC Z 4 "_law_promise" F_law_promise_L := by
  have Sc := sc_law_promise_L
  exact D.fc Sc (fun _ _ _ _ _ _ us hl => match us, hl with | [_], _ => rfl) fun f cdv A outer s H E C => by exact (css_cons (cs_set (i := 1) Sc.nd rfl (Or.inl rfl) (ce_callTy call_tuple_of sl_tuple rfl B.b_tuple PyProof.Rows.boot_tuple (ca_cons (ce_lcC false (fun h => nomatch h) C Sc.nd (ci_range1 rfl B.b_range (ca_cons (ce_call h_law_draw_L C (by decide) rfl (ca_cons (ce_v 0) (ca_cons ce_int ca_nil))) ca_nil) rfl len1) (show BlkOk (["hand", "ins", "one", "rows", "row"] : List Str) (defScope s_law_promise_L) _ [(("one" : Str), 2)] from blkOk_by (by decide +kernel)) (fun _ _ _ _ _ C => (pg_name (i := 2) Sc.nd rfl (Or.inl rfl) (Or.inr rfl))) (tgc_name (by decide)) (fun _ _ _ _ _ _ => pts_yes) (fun _ _ _ _ _ C => (ce_call h_law_hold_L C (by decide) rfl (ca_cons (ce_v 0) ca_nil)))) ca_nil))) (css_cons (cs_set (i := 3) Sc.nd rfl (Or.inl rfl) (ce_callTy call_tuple_of sl_tuple rfl B.b_tuple PyProof.Rows.boot_tuple (ca_cons (ce_lcC false (fun h => nomatch h) C Sc.nd (ci_range1 rfl B.b_range (ca_cons (ce_call h_law_draw_L C (by decide) rfl (ca_cons (ce_v 0) (ca_cons ce_int ca_nil))) ca_nil) rfl len1) (show BlkOk (["hand", "ins", "one", "rows", "row"] : List Str) (defScope s_law_promise_L) _ [(("row" : Str), 4)] from blkOk_by (by decide +kernel)) (fun _ _ _ _ _ C => (pg_name (i := 4) Sc.nd rfl (Or.inl rfl) (Or.inr rfl))) (tgc_name (by decide)) (fun _ _ _ _ _ _ => pts_yes) (fun _ _ _ _ _ C => (ce_tup (ca_cons (ce_bin op_addM (sn_add false (fun h => nomatch h)) ce_int (ce_call h_law_draw_L C (by decide) rfl (ca_cons (ce_v 0) (ca_cons ce_int ca_nil)))) (ca_cons (ce_call h_law_hold_L C (by decide) rfl (ca_cons (ce_v 0) ca_nil)) ca_nil))))) ca_nil))) (css_one (cs_ret (ce_tup (ca_cons (ce_call h_law_any_L C (by decide) rfl (ca_cons (ce_v 0) (ca_cons (ce_lst false (fun h => nomatch h) (ca_cons ce_str (ca_cons ce_str (ca_cons ce_str ca_nil)))) ca_nil))) (ca_cons (ce_v 1) (ca_cons (ce_v 3) (ca_cons (ce_call h_law_hold_L C (by decide) rfl (ca_cons (ce_v 0) ca_nil)) ca_nil)))))))))
/-! _law_moved -/
abbrev s_law_moved_L : Stmt := top 50
def d_law_moved_L : EnP → Sto → SR := dSeq (dAsg (dV 1) (gTp 3 (gsCons (gNm 2) (gsCons (gNm 3) (gsCons (gNm 4) (gsNil)))))) (dSeq (dSet 5 (dTup (dCons (dBin (fAdd false) (dC (.int 1)) (dCB F_law_draw_L (dCons (dV 0) (dCons (dC (.int 2)) (dNil))))) (dCons (dC (.int 2)) (dNil))))) (dSeq (dPar 6 7 (dCons (dCB F_law_plus_L (dCons (dV 2) (dCons (dTup (dCons (dBin fSub (dC (.int 0)) (dBin fIx (dV 5) (dC (.int 0)))) (dCons (dC (.int 2)) (dNil)))) (dNil)))) (dCons (dCB F_law_low_L (dCons (dBin (fAdd false) (dBin (fMul false) (dBin fIx (dV 2) (dC (.int 0))) (dBin fIx (dV 3) (dC (.int 1)))) (dBin (fMul false) (dBin fIx (dV 3) (dC (.int 0))) (dBin fIx (dV 2) (dC (.int 1))))) (dCons (dBin (fMul false) (dBin (fMul false) (dC (.int 2)) (dBin fIx (dV 2) (dC (.int 1)))) (dBin fIx (dV 3) (dC (.int 1)))) (dNil)))) (dNil)))) (dSeq (dSet 8 (dLst true (dCons (dTup (dCons (dV 6) (dCons (dV 3) (dCons (dV 4) (dNil))))) (dCons (dTup (dCons (dV 2) (dCons (dCB F_law_plus_L (dCons (dV 3) (dCons (dV 5) (dNil)))) (dCons (dV 4) (dNil))))) (dCons (dTup (dCons (dV 2) (dCons (dV 3) (dCons (dCB F_law_plus_L (dCons (dV 4) (dCons (dV 5) (dNil)))) (dNil))))) (dNil)))))) (dSeq (dSet 8 (dBin (fAdd true) (dV 8) (dLst false (dCons (dTup (dCons (dV 7) (dCons (dV 3) (dCons (dV 4) (dNil))))) (dCons (dTup (dCons (dV 2) (dCons (dV 7) (dCons (dV 4) (dNil))))) (dCons (dTup (dCons (dV 2) (dCons (dV 3) (dCons (dCB F_law_low_L (dCons (dBin fIx (dV 4) (dC (.int 0))) (dCons (dBin (fMul false) (dC (.int 2)) (dBin fIx (dV 4) (dC (.int 1)))) (dNil)))) (dNil))))) (dNil))))))) (dSeq (dExpr (dApp (dV 8) (dCons (dTup (dCons (dV 2) (dCons (dV 3) (dCons (dTup (dCons (dC (.int 0)) (dCons (dC (.int 1)) (dNil)))) (dNil))))) (dNil)))) (dRet (dCB F_law_any_L (dCons (dV 0) (dCons (dV 8) (dNil))))))))))
def F_law_moved_L : List PV → Sto → Res PV := runF 2 9 d_law_moved_L
theorem sc_law_moved_L : FnScope (["hand", "hold", "low", "high", "off", "step", "less", "middle", "some"] : List Str) (["hand", "hold"] : List Str) (defScope s_law_moved_L) := ⟨rfl, rfl, rfl, by decide +kernel, rfl, by decide +kernel, by decide +kernel⟩
theorem fc_law_moved_L {Z : Wd} (B : Bi Z.mg) (hT : Z.T.lm = none) (h_law_draw_L : FC Z 1 "_law_draw" F_law_draw_L) (h_law_plus_L : FC Z 2 "_law_plus" F_law_plus_L) (h_law_low_L : FC Z 1 "_law_low" F_law_low_L) (h_law_any_L : FC Z 2 "_law_any" F_law_any_L) (D : DefOk Z "_law_moved" s_law_moved_L) : FC Z 3 "_law_moved" F_law_moved_L := by
  have Sc := sc_law_moved_L
  exact D.fc Sc (fun _ _ _ _ _ _ us hl => match us, hl with | [_, _], _ => rfl) fun f cdv A outer s H E C => by exact (css_cons (cs_asg (ce_v 1) (cg_tup C.calm (cgs_cons (fun _ _ _ _ _ h => h) (cg_name (i := 2) Sc.nd rfl (Or.inl rfl)) (cgs_cons (fun _ _ _ _ _ h => h) (cg_name (i := 3) Sc.nd rfl (Or.inl rfl)) (cgs_cons (fun _ _ _ _ _ h => h) (cg_name (i := 4) Sc.nd rfl (Or.inl rfl)) cgs_nil))))) (css_cons (cs_set (i := 5) Sc.nd rfl (Or.inl rfl) (ce_tup (ca_cons (ce_bin op_addM (sn_add false (fun h => nomatch h)) ce_int (ce_call h_law_draw_L C (by decide) rfl (ca_cons (ce_v 0) (ca_cons ce_int ca_nil)))) (ca_cons ce_int ca_nil)))) (css_cons (cs_par (i := 6) (j := 7) C.calm Sc.nd rfl rfl (by decide) rfl rfl (ca_cons (ce_call h_law_plus_L C (by decide) rfl (ca_cons (ce_v 2) (ca_cons (ce_tup (ca_cons (ce_bin op_sub sn_sub ce_int (ce_ix (ce_v 5) ce_int (fun _ _ => rfl))) (ca_cons ce_int ca_nil))) ca_nil))) (ca_cons (ce_call h_law_low_L C (by decide) rfl (ca_cons (ce_bin op_addM (sn_add false (fun h => nomatch h)) (ce_bin op_mulM (sn_mul false (fun h => nomatch h)) (ce_ix (ce_v 2) ce_int (fun _ _ => rfl)) (ce_ix (ce_v 3) ce_int (fun _ _ => rfl))) (ce_bin op_mulM (sn_mul false (fun h => nomatch h)) (ce_ix (ce_v 3) ce_int (fun _ _ => rfl)) (ce_ix (ce_v 2) ce_int (fun _ _ => rfl)))) (ca_cons (ce_bin op_mulM (sn_mul false (fun h => nomatch h)) (ce_bin op_mulM (sn_mul false (fun h => nomatch h)) ce_int (ce_ix (ce_v 2) ce_int (fun _ _ => rfl))) (ce_ix (ce_v 3) ce_int (fun _ _ => rfl))) ca_nil))) ca_nil)) rfl) (css_cons (cs_set (i := 8) Sc.nd rfl (Or.inl rfl) (ce_lst true (fun _ => gm_bare C.room.hd hT) (ca_cons (ce_tup (ca_cons (ce_v 6) (ca_cons (ce_v 3) (ca_cons (ce_v 4) ca_nil)))) (ca_cons (ce_tup (ca_cons (ce_v 2) (ca_cons (ce_call h_law_plus_L C (by decide) rfl (ca_cons (ce_v 3) (ca_cons (ce_v 5) ca_nil))) (ca_cons (ce_v 4) ca_nil)))) (ca_cons (ce_tup (ca_cons (ce_v 2) (ca_cons (ce_v 3) (ca_cons (ce_call h_law_plus_L C (by decide) rfl (ca_cons (ce_v 4) (ca_cons (ce_v 5) ca_nil))) ca_nil)))) ca_nil))))) (css_cons (cs_set (i := 8) Sc.nd rfl (Or.inl rfl) (ce_bin op_addM (sn_add true (fun _ => gm_bare C.room.hd hT)) (ce_v 8) (ce_lst false (fun h => nomatch h) (ca_cons (ce_tup (ca_cons (ce_v 7) (ca_cons (ce_v 3) (ca_cons (ce_v 4) ca_nil)))) (ca_cons (ce_tup (ca_cons (ce_v 2) (ca_cons (ce_v 7) (ca_cons (ce_v 4) ca_nil)))) (ca_cons (ce_tup (ca_cons (ce_v 2) (ca_cons (ce_v 3) (ca_cons (ce_call h_law_low_L C (by decide) rfl (ca_cons (ce_ix (ce_v 4) ce_int (fun _ _ => rfl)) (ca_cons (ce_bin op_mulM (sn_mul false (fun h => nomatch h)) ce_int (ce_ix (ce_v 4) ce_int (fun _ _ => rfl))) ca_nil))) ca_nil)))) ca_nil)))))) (css_cons (cs_expr (ce_app (gm_bare C.room.hd hT) (ce_v 8) (ca_cons (ce_tup (ca_cons (ce_v 2) (ca_cons (ce_v 3) (ca_cons (ce_tup (ca_cons ce_int (ca_cons ce_int ca_nil))) ca_nil)))) ca_nil))) (css_one (cs_ret (ce_call h_law_any_L C (by decide) rfl (ca_cons (ce_v 0) (ca_cons (ce_v 8) ca_nil)))))))))))
/-! _law_near -/
abbrev s_law_near_L : Stmt := top 51
def d_law_near_L : EnP → Sto → SR := dSeq (dAsg (dV 1) (gTp 4 (gsCons (gNm 2) (gsCons (gNm 3) (gsCons (gNm 4) (gsCons (gNm 5) (gsNil))))))) (dSeq (dSet 6 (dCB F_law_draw_L (dCons (dV 0) (dCons (dC (.int 8)) (dNil))))) (dSeq (dIfS (bAnd (dB (dBin (fCmpI iLt) (dV 6) (dC (.int 3)))) (dB (dBin (fCmpI iGt) (dCB fLen (dCons (dV 3) (dNil))) (dC (.int 0))))) (dSeq (dSet 7 (dCB F_law_draw_L (dCons (dV 0) (dCons (dCB fLen (dCons (dV 3) (dNil))) (dNil))))) (dSet 3 (dBin (fAdd false) (dBin (fAdd false) (dSl false (dV 3) (dNoPart) (dPart (dV 7))) (dTup (dCons (dCB F_law_moved_L (dCons (dV 0) (dCons (dBin fIx (dV 3) (dV 7)) (dNil)))) (dNil)))) (dSl false (dV 3) (dPart (dBin (fAdd false) (dV 7) (dC (.int 1)))) (dNoPart))))) (dIfS (bAnd (dB (dBin (fCmpI iLt) (dV 6) (dC (.int 5)))) (dB (dBin (fCmpI iGt) (dCB fLen (dCons (dV 4) (dNil))) (dC (.int 0))))) (dSeq (dSet 7 (dCB F_law_draw_L (dCons (dV 0) (dCons (dCB fLen (dCons (dV 4) (dNil))) (dNil))))) (dSeq (dSet 8 (dTup (dCons (dBin fIx (dBin fIx (dV 4) (dV 7)) (dC (.int 0))) (dCons (dCB F_law_moved_L (dCons (dV 0) (dCons (dBin fIx (dBin fIx (dV 4) (dV 7)) (dC (.int 1))) (dNil)))) (dNil))))) (dSet 4 (dBin (fAdd false) (dBin (fAdd false) (dSl false (dV 4) (dNoPart) (dPart (dV 7))) (dTup (dCons (dV 8) (dNil)))) (dSl false (dV 4) (dPart (dBin (fAdd false) (dV 7) (dC (.int 1)))) (dNoPart)))))) (dIfS (dB (dBin (fEq false) (dV 6) (dC (.int 5)))) (dSet 5 (dCB F_law_moved_L (dCons (dV 0) (dCons (dV 5) (dNil))))) (dIfS (dB (dBin (fEq false) (dV 6) (dC (.int 6)))) (dSet 3 (dCB F_law_any_L (dCons (dV 0) (dCons (dLst false (dCons (dSl false (dV 3) (dPart (dC (.int 1))) (dNoPart)) (dCons (dBin (fAdd false) (dV 3) (dTup (dCons (dCB F_law_hold_L (dCons (dV 0) (dNil))) (dNil)))) (dNil)))) (dNil))))) (dIfS (bAnd (dB (dBin (fEq false) (dV 6) (dC (.int 7)))) (dB (dBin (fCmpI iGt) (dCB fLen (dCons (dV 4) (dNil))) (dC (.int 0))))) (dSet 4 (dCB F_law_any_L (dCons (dV 0) (dCons (dLst false (dCons (dSl false (dV 4) (dPart (dC (.int 1))) (dNoPart)) (dCons (dBin (fAdd false) (dTup (dCons (dTup (dCons (dBin (fAdd false) (dBin fIx (dBin fIx (dV 4) (dC (.int 0))) (dC (.int 0))) (dC (.int 1))) (dCons (dBin fIx (dBin fIx (dV 4) (dC (.int 0))) (dC (.int 1))) (dNil)))) (dNil))) (dSl false (dV 4) (dPart (dC (.int 1))) (dNoPart))) (dNil)))) (dNil))))) (dPass)))))) (dRet (dTup (dCons (dCB F_law_any_L (dCons (dV 0) (dCons (dLst false (dCons (dV 2) (dCons (dC (.str ("other" : Str))) (dNil)))) (dNil)))) (dCons (dV 3) (dCons (dV 4) (dCons (dV 5) (dNil)))))))))
def F_law_near_L : List PV → Sto → Res PV := runF 2 9 d_law_near_L
theorem sc_law_near_L : FnScope (["hand", "promise", "name", "ins", "rows", "out", "way", "at", "moved"] : List Str) (["hand", "promise"] : List Str) (defScope s_law_near_L) := ⟨rfl, rfl, rfl, by decide +kernel, rfl, by decide +kernel, by decide +kernel⟩
theorem fc_law_near_L {Z : Wd} (B : Bi Z.mg) (hT : Z.T.lm = none) (h_law_draw_L : FC Z 1 "_law_draw" F_law_draw_L) (h_law_moved_L : FC Z 3 "_law_moved" F_law_moved_L) (h_law_any_L : FC Z 2 "_law_any" F_law_any_L) (h_law_hold_L : FC Z 3 "_law_hold" F_law_hold_L) (D : DefOk Z "_law_near" s_law_near_L) : FC Z 4 "_law_near" F_law_near_L := by
  have Sc := sc_law_near_L
  exact D.fc Sc (fun _ _ _ _ _ _ us hl => match us, hl with | [_, _], _ => rfl) fun f cdv A outer s H E C => by exact (css_cons (cs_asg (ce_v 1) (cg_tup C.calm (cgs_cons (fun _ _ _ _ _ h => h) (cg_name (i := 2) Sc.nd rfl (Or.inl rfl)) (cgs_cons (fun _ _ _ _ _ h => h) (cg_name (i := 3) Sc.nd rfl (Or.inl rfl)) (cgs_cons (fun _ _ _ _ _ h => h) (cg_name (i := 4) Sc.nd rfl (Or.inl rfl)) (cgs_cons (fun _ _ _ _ _ h => h) (cg_name (i := 5) Sc.nd rfl (Or.inl rfl)) cgs_nil)))))) (css_cons (cs_set (i := 6) Sc.nd rfl (Or.inl rfl) (ce_call h_law_draw_L C (by decide) rfl (ca_cons (ce_v 0) (ca_cons ce_int ca_nil)))) (css_cons (cs_if (ct_w (cw_and (ct_cmp op_lt (sn_cmpI iLt) (ce_v 6) ce_int rfl) (cw_and1 (ct_cmp op_gt (sn_cmpI iGt) (ce_callB (x := ("len" : Str)) call_len sl_len rfl B.b_len (by decide +kernel) (ca_cons (ce_v 3) ca_nil)) ce_int rfl)))) (css_cons (cs_set (i := 7) Sc.nd rfl (Or.inl rfl) (ce_call h_law_draw_L C (by decide) rfl (ca_cons (ce_v 0) (ca_cons (ce_callB (x := ("len" : Str)) call_len sl_len rfl B.b_len (by decide +kernel) (ca_cons (ce_v 3) ca_nil)) ca_nil)))) (css_one (cs_set (i := 3) Sc.nd rfl (Or.inl rfl) (ce_bin op_addM (sn_add false (fun h => nomatch h)) (ce_bin op_addM (sn_add false (fun h => nomatch h)) (ce_sl false (fun h => nomatch h) (ce_v 3) co_none (co_some (ce_v 7))) (ce_tup (ca_cons (ce_call h_law_moved_L C (by decide) rfl (ca_cons (ce_v 0) (ca_cons (ce_ix (ce_v 3) (ce_v 7) (fun _ _ => rfl)) ca_nil))) ca_nil))) (ce_sl false (fun h => nomatch h) (ce_v 3) (co_some (ce_bin op_addM (sn_add false (fun h => nomatch h)) (ce_v 7) ce_int)) co_none))))) (css_one (cs_if (ct_w (cw_and (ct_cmp op_lt (sn_cmpI iLt) (ce_v 6) ce_int rfl) (cw_and1 (ct_cmp op_gt (sn_cmpI iGt) (ce_callB (x := ("len" : Str)) call_len sl_len rfl B.b_len (by decide +kernel) (ca_cons (ce_v 4) ca_nil)) ce_int rfl)))) (css_cons (cs_set (i := 7) Sc.nd rfl (Or.inl rfl) (ce_call h_law_draw_L C (by decide) rfl (ca_cons (ce_v 0) (ca_cons (ce_callB (x := ("len" : Str)) call_len sl_len rfl B.b_len (by decide +kernel) (ca_cons (ce_v 4) ca_nil)) ca_nil)))) (css_cons (cs_set (i := 8) Sc.nd rfl (Or.inl rfl) (ce_tup (ca_cons (ce_ix (ce_ix (ce_v 4) (ce_v 7) (fun _ _ => rfl)) ce_int (fun _ _ => rfl)) (ca_cons (ce_call h_law_moved_L C (by decide) rfl (ca_cons (ce_v 0) (ca_cons (ce_ix (ce_ix (ce_v 4) (ce_v 7) (fun _ _ => rfl)) ce_int (fun _ _ => rfl)) ca_nil))) ca_nil)))) (css_one (cs_set (i := 4) Sc.nd rfl (Or.inl rfl) (ce_bin op_addM (sn_add false (fun h => nomatch h)) (ce_bin op_addM (sn_add false (fun h => nomatch h)) (ce_sl false (fun h => nomatch h) (ce_v 4) co_none (co_some (ce_v 7))) (ce_tup (ca_cons (ce_v 8) ca_nil))) (ce_sl false (fun h => nomatch h) (ce_v 4) (co_some (ce_bin op_addM (sn_add false (fun h => nomatch h)) (ce_v 7) ce_int)) co_none)))))) (css_one (cs_if (ct_cmp (op_eqD (u64 C.u)) sn_eq (ce_v 6) ce_int rfl) (css_one (cs_set (i := 5) Sc.nd rfl (Or.inl rfl) (ce_call h_law_moved_L C (by decide) rfl (ca_cons (ce_v 0) (ca_cons (ce_v 5) ca_nil))))) (css_one (cs_if (ct_cmp (op_eqD (u64 C.u)) sn_eq (ce_v 6) ce_int rfl) (css_one (cs_set (i := 3) Sc.nd rfl (Or.inl rfl) (ce_call h_law_any_L C (by decide) rfl (ca_cons (ce_v 0) (ca_cons (ce_lst false (fun h => nomatch h) (ca_cons (ce_sl false (fun h => nomatch h) (ce_v 3) (co_some ce_int) co_none) (ca_cons (ce_bin op_addM (sn_add false (fun h => nomatch h)) (ce_v 3) (ce_tup (ca_cons (ce_call h_law_hold_L C (by decide) rfl (ca_cons (ce_v 0) ca_nil)) ca_nil))) ca_nil))) ca_nil))))) (css_one (cs_if (ct_w (cw_and (ct_cmp (op_eqD (u64 C.u)) sn_eq (ce_v 6) ce_int rfl) (cw_and1 (ct_cmp op_gt (sn_cmpI iGt) (ce_callB (x := ("len" : Str)) call_len sl_len rfl B.b_len (by decide +kernel) (ca_cons (ce_v 4) ca_nil)) ce_int rfl)))) (css_one (cs_set (i := 4) Sc.nd rfl (Or.inl rfl) (ce_call h_law_any_L C (by decide) rfl (ca_cons (ce_v 0) (ca_cons (ce_lst false (fun h => nomatch h) (ca_cons (ce_sl false (fun h => nomatch h) (ce_v 4) (co_some ce_int) co_none) (ca_cons (ce_bin op_addM (sn_add false (fun h => nomatch h)) (ce_tup (ca_cons (ce_tup (ca_cons (ce_bin op_addM (sn_add false (fun h => nomatch h)) (ce_ix (ce_ix (ce_v 4) ce_int (fun _ _ => rfl)) ce_int (fun _ _ => rfl)) ce_int) (ca_cons (ce_ix (ce_ix (ce_v 4) ce_int (fun _ _ => rfl)) ce_int (fun _ _ => rfl)) ca_nil))) ca_nil)) (ce_sl false (fun h => nomatch h) (ce_v 4) (co_some ce_int) co_none)) ca_nil))) ca_nil))))) css_nil))))))))) (css_one (cs_ret (ce_tup (ca_cons (ce_call h_law_any_L C (by decide) rfl (ca_cons (ce_v 0) (ca_cons (ce_lst false (fun h => nomatch h) (ca_cons (ce_v 2) (ca_cons ce_str ca_nil))) ca_nil))) (ca_cons (ce_v 3) (ca_cons (ce_v 4) (ca_cons (ce_v 5) ca_nil))))))))))
/-! _law_covers -/
abbrev s_law_covers_L : Stmt := top 52
def d_law_covers_L : EnP → Sto → SR := dSeq (dSet 2 (dBin (fCmpI iLe) (dBin (fMul false) (dBin fIx (dBin fIx (dV 0) (dC (.int 0))) (dC (.int 0))) (dBin fIx (dBin fIx (dV 1) (dC (.int 0))) (dC (.int 1)))) (dBin (fMul false) (dBin fIx (dBin fIx (dV 1) (dC (.int 0))) (dC (.int 0))) (dBin fIx (dBin fIx (dV 0) (dC (.int 0))) (dC (.int 1)))))) (dSeq (dSet 3 (dBin (fCmpI iGe) (dBin (fMul false) (dBin fIx (dBin fIx (dV 0) (dC (.int 1))) (dC (.int 0))) (dBin fIx (dBin fIx (dV 1) (dC (.int 1))) (dC (.int 1)))) (dBin (fMul false) (dBin fIx (dBin fIx (dV 1) (dC (.int 1))) (dC (.int 0))) (dBin fIx (dBin fIx (dV 0) (dC (.int 1))) (dC (.int 1)))))) (dRet (dAnd (dV 2) (dAnd (dV 3) (dBin (fCmpI iGe) (dBin (fMul false) (dBin fIx (dBin fIx (dV 0) (dC (.int 2))) (dC (.int 0))) (dBin fIx (dBin fIx (dV 1) (dC (.int 2))) (dC (.int 1)))) (dBin (fMul false) (dBin fIx (dBin fIx (dV 1) (dC (.int 2))) (dC (.int 0))) (dBin fIx (dBin fIx (dV 0) (dC (.int 2))) (dC (.int 1)))))))))
def F_law_covers_L : List PV → Sto → Res PV := runF 2 4 d_law_covers_L
theorem sc_law_covers_L : FnScope (["one", "other", "low", "high"] : List Str) (["one", "other"] : List Str) (defScope s_law_covers_L) := ⟨rfl, rfl, rfl, by decide +kernel, rfl, by decide +kernel, by decide +kernel⟩
theorem fc_law_covers_L {Z : Wd} (B : Bi Z.mg) (hT : Z.T.lm = none) (D : DefOk Z "_law_covers" s_law_covers_L) : FC Z 1 "_law_covers" F_law_covers_L := by
  have Sc := sc_law_covers_L
  exact D.fc Sc (fun _ _ _ _ _ _ us hl => match us, hl with | [_, _], _ => rfl) fun f cdv A outer s H E C => by exact (css_cons (cs_set (i := 2) Sc.nd rfl (Or.inl rfl) (ce_cmp op_le (sn_cmpI iLe) (ce_bin op_mulM (sn_mul false (fun h => nomatch h)) (ce_ix (ce_ix (ce_v 0) ce_int (fun _ _ => rfl)) ce_int (fun _ _ => rfl)) (ce_ix (ce_ix (ce_v 1) ce_int (fun _ _ => rfl)) ce_int (fun _ _ => rfl))) (ce_bin op_mulM (sn_mul false (fun h => nomatch h)) (ce_ix (ce_ix (ce_v 1) ce_int (fun _ _ => rfl)) ce_int (fun _ _ => rfl)) (ce_ix (ce_ix (ce_v 0) ce_int (fun _ _ => rfl)) ce_int (fun _ _ => rfl))) rfl)) (css_cons (cs_set (i := 3) Sc.nd rfl (Or.inl rfl) (ce_cmp op_ge (sn_cmpI iGe) (ce_bin op_mulM (sn_mul false (fun h => nomatch h)) (ce_ix (ce_ix (ce_v 0) ce_int (fun _ _ => rfl)) ce_int (fun _ _ => rfl)) (ce_ix (ce_ix (ce_v 1) ce_int (fun _ _ => rfl)) ce_int (fun _ _ => rfl))) (ce_bin op_mulM (sn_mul false (fun h => nomatch h)) (ce_ix (ce_ix (ce_v 1) ce_int (fun _ _ => rfl)) ce_int (fun _ _ => rfl)) (ce_ix (ce_ix (ce_v 0) ce_int (fun _ _ => rfl)) ce_int (fun _ _ => rfl))) rfl)) (css_one (cs_ret (ce_and (ce_v 2) (ce_and (ce_v 3) (ce_one (ce_cmp op_ge (sn_cmpI iGe) (ce_bin op_mulM (sn_mul false (fun h => nomatch h)) (ce_ix (ce_ix (ce_v 0) ce_int (fun _ _ => rfl)) ce_int (fun _ _ => rfl)) (ce_ix (ce_ix (ce_v 1) ce_int (fun _ _ => rfl)) ce_int (fun _ _ => rfl))) (ce_bin op_mulM (sn_mul false (fun h => nomatch h)) (ce_ix (ce_ix (ce_v 1) ce_int (fun _ _ => rfl)) ce_int (fun _ _ => rfl)) (ce_ix (ce_ix (ce_v 0) ce_int (fun _ _ => rfl)) ce_int (fun _ _ => rfl))) rfl))))))))
/-! _law_shown -/
abbrev s_law_shown_L : Stmt := top 53
def d_law_shown_L : EnP → Sto → SR := dSeq (dIfS (bOr (dB (dBin (fEq true) (dCB fLen (dCons (dBin fIx (dV 0) (dC (.int 1))) (dNil))) (dCB fLen (dCons (dBin fIx (dV 1) (dC (.int 1))) (dNil))))) (dB (dBin (fEq true) (dLc false (iSeq (dBin fIx (dV 0) (dC (.int 2)))) (cNm 2) (dYes) (dBin fIx (dV 2) (dC (.int 0))) [2]) (dLc false (iSeq (dBin fIx (dV 1) (dC (.int 2)))) (cNm 2) (dYes) (dBin fIx (dV 2) (dC (.int 0))) [2])))) (dRet (dTup (dCons (dC (.str ("unlike" : Str))) (dNil)))) (dPass)) (dSeq (dFor (iEnZ (dCons (dBin fIx (dV 0) (dC (.int 1))) (dCons (dBin fIx (dV 1) (dC (.int 1))) (dNil)))) (gTp 2 (gsCons (gNm 3) (gsCons (gNm 4) (gsNil)))) (dIfS (bNot (dTru (dCB F_law_covers_L (dCons (dBin fIx (dV 4) (dC (.int 0))) (dCons (dBin fIx (dV 4) (dC (.int 1))) (dNil)))))) (dRet (dTup (dCons (dC (.str ("ins" : Str))) (dCons (dV 3) (dNil))))) (dPass))) (dSeq (dFor (iEnZ (dCons (dBin fIx (dV 0) (dC (.int 2))) (dCons (dBin fIx (dV 1) (dC (.int 2))) (dNil)))) (gTp 2 (gsCons (gNm 3) (gsCons (gNm 4) (gsNil)))) (dIfS (bNot (dTru (dCB F_law_covers_L (dCons (dBin fIx (dBin fIx (dV 4) (dC (.int 0))) (dC (.int 1))) (dCons (dBin fIx (dBin fIx (dV 4) (dC (.int 1))) (dC (.int 1))) (dNil)))))) (dRet (dTup (dCons (dC (.str ("rows" : Str))) (dCons (dV 3) (dNil))))) (dPass))) (dRet (dIf (dTru (dCB F_law_covers_L (dCons (dBin fIx (dV 1) (dC (.int 3))) (dCons (dBin fIx (dV 0) (dC (.int 3))) (dNil))))) (dTup (dCons (dC (.str ("backs" : Str))) (dNil))) (dTup (dCons (dC (.str ("out" : Str))) (dNil)))))))
def F_law_shown_L : List PV → Sto → Res PV := runF 2 5 d_law_shown_L
theorem sc_law_shown_L : FnScope (["export", "wanted", "row", "at", "pair"] : List Str) (["export", "wanted"] : List Str) (defScope s_law_shown_L) := ⟨rfl, rfl, rfl, by decide +kernel, rfl, by decide +kernel, by decide +kernel⟩
theorem fc_law_shown_L {Z : Wd} (B : Bi Z.mg) (hT : Z.T.lm = none) (h_law_covers_L : FC Z 1 "_law_covers" F_law_covers_L) (D : DefOk Z "_law_shown" s_law_shown_L) : FC Z 2 "_law_shown" F_law_shown_L := by
  have Sc := sc_law_shown_L
  exact D.fc Sc (fun _ _ _ _ _ _ us hl => match us, hl with | [_, _], _ => rfl) fun f cdv A outer s H E C => by exact (css_cons (cs_if (ct_w (cw_or (ct_cmp (op_neD (u64 C.u)) sn_ne (ce_callB (x := ("len" : Str)) call_len sl_len rfl B.b_len (by decide +kernel) (ca_cons (ce_ix (ce_v 0) ce_int (fun _ _ => rfl)) ca_nil)) (ce_callB (x := ("len" : Str)) call_len sl_len rfl B.b_len (by decide +kernel) (ca_cons (ce_ix (ce_v 1) ce_int (fun _ _ => rfl)) ca_nil)) rfl) (cw_or1 (ct_cmp (op_neD (u64 C.u)) sn_ne (ce_lcC false (fun h => nomatch h) C Sc.nd (ci_seq (ce_ix (ce_v 0) ce_int (fun _ _ => rfl))) (show BlkOk (["export", "wanted", "row", "at", "pair"] : List Str) (defScope s_law_shown_L) _ [(("row" : Str), 2)] from blkOk_by (by decide +kernel)) (fun _ _ _ _ _ C => (pg_name (i := 2) Sc.nd rfl (Or.inl rfl) (Or.inr rfl))) (tgc_name (by decide)) (fun _ _ _ _ _ _ => pts_yes) (fun _ _ _ _ _ C => (ce_ix (ce_v 2) ce_int (fun _ _ => rfl)))) (ce_lcC false (fun h => nomatch h) C Sc.nd (ci_seq (ce_ix (ce_v 1) ce_int (fun _ _ => rfl))) (show BlkOk (["export", "wanted", "row", "at", "pair"] : List Str) (defScope s_law_shown_L) _ [(("row" : Str), 2)] from blkOk_by (by decide +kernel)) (fun _ _ _ _ _ C => (pg_name (i := 2) Sc.nd rfl (Or.inl rfl) (Or.inr rfl))) (tgc_name (by decide)) (fun _ _ _ _ _ _ => pts_yes) (fun _ _ _ _ _ C => (ce_ix (ce_v 2) ce_int (fun _ _ => rfl)))) rfl)))) (css_one (cs_ret (ce_tup (ca_cons ce_str ca_nil)))) css_nil) (css_cons (cs_for C.po C.calm (ci_enzip rfl (B.get (x := ("enumerate" : Str)) (by decide)) rfl B.b_zip (ca_cons (ce_ix (ce_v 0) ce_int (fun _ _ => rfl)) (ca_cons (ce_ix (ce_v 1) ce_int (fun _ _ => rfl)) ca_nil))) (cg_tup C.calm (cgs_cons (fun _ _ _ _ _ h => h) (cg_name (i := 3) Sc.nd rfl (Or.inl rfl)) (cgs_cons (fun _ _ _ _ _ h => h) (cg_name (i := 4) Sc.nd rfl (Or.inl rfl)) cgs_nil))) (css_one (cs_if (ct_not (ct_tru (ce_call h_law_covers_L C (by decide) rfl (ca_cons (ce_ix (ce_v 4) ce_int (fun _ _ => rfl)) (ca_cons (ce_ix (ce_v 4) ce_int (fun _ _ => rfl)) ca_nil))))) (css_one (cs_ret (ce_tup (ca_cons ce_str (ca_cons (ce_v 3) ca_nil))))) css_nil))) (css_cons (cs_for C.po C.calm (ci_enzip rfl (B.get (x := ("enumerate" : Str)) (by decide)) rfl B.b_zip (ca_cons (ce_ix (ce_v 0) ce_int (fun _ _ => rfl)) (ca_cons (ce_ix (ce_v 1) ce_int (fun _ _ => rfl)) ca_nil))) (cg_tup C.calm (cgs_cons (fun _ _ _ _ _ h => h) (cg_name (i := 3) Sc.nd rfl (Or.inl rfl)) (cgs_cons (fun _ _ _ _ _ h => h) (cg_name (i := 4) Sc.nd rfl (Or.inl rfl)) cgs_nil))) (css_one (cs_if (ct_not (ct_tru (ce_call h_law_covers_L C (by decide) rfl (ca_cons (ce_ix (ce_ix (ce_v 4) ce_int (fun _ _ => rfl)) ce_int (fun _ _ => rfl)) (ca_cons (ce_ix (ce_ix (ce_v 4) ce_int (fun _ _ => rfl)) ce_int (fun _ _ => rfl)) ca_nil))))) (css_one (cs_ret (ce_tup (ca_cons ce_str (ca_cons (ce_v 3) ca_nil))))) css_nil))) (css_one (cs_ret (ce_if (ct_tru (ce_call h_law_covers_L C (by decide) rfl (ca_cons (ce_ix (ce_v 1) ce_int (fun _ _ => rfl)) (ca_cons (ce_ix (ce_v 0) ce_int (fun _ _ => rfl)) ca_nil)))) (ce_tup (ca_cons ce_str ca_nil)) (ce_tup (ca_cons ce_str ca_nil))))))))
/-! _law_pair_right -/
abbrev s_law_pair_right_L : Stmt := top 54
def d_law_pair_right_L : EnP → Sto → SR := dSeq (dSet 3 (dCB F_law_shown_L (dCons (dV 1) (dCons (dV 2) (dNil))))) (dSeq (dIfS (bOr (dB (dBin (fEq true) (dCB fRepr (dCons (dCB F_backing_shown (dCons (dV 1) (dCons (dV 2) (dNil)))) (dNil))) (dCB fRepr (dCons (dV 3) (dNil))))) (dB (dBin (fEq true) (dCB fRepr (dCons (dCB F_backs (dCons (dV 1) (dCons (dV 2) (dNil)))) (dNil))) (dCB fRepr (dCons (dBin (fEq false) (dV 3) (dTup (dCons (dC (.str ("backs" : Str))) (dNil)))) (dNil)))))) (dRet (dC (.bl false))) (dPass)) (dSeq (dSet 4 (dLst false (dCons (dV 3) (dCons (dTup (dCons (dC (.str ("backs" : Str))) (dNil))) (dCons (dTup (dCons (dC (.str ("unlike" : Str))) (dNil))) (dCons (dTup (dCons (dC (.str ("ins" : Str))) (dCons (dC (.int 0)) (dNil)))) (dCons (dTup (dCons (dC (.str ("ins" : Str))) (dCons (dC (.int 1)) (dNil)))) (dCons (dTup (dCons (dC (.str ("rows" : Str))) (dCons (dC (.int 0)) (dNil)))) (dCons (dTup (dCons (dC (.str ("out" : Str))) (dNil))) (dCons (dTup (dCons (dC (.str ("backs" : Str))) (dCons (dC (.int 0)) (dNil)))) (dCons (dTup (dCons (dC (.str ("ins" : Str))) (dCons (dC (.bl true)) (dNil)))) (dNil)))))))))))) (dSeq (dSet 4 (dBin (fAdd false) (dV 4) (dLst false (dCons (dC .non) (dCons (dC (.str ("backs" : Str))) (dCons (dTup (dNil)) (dCons (dLc false (iSeq (dV 3)) (cNm 5) (dYes) (dV 5) [5]) (dCons (dTup (dCons (dC (.str ("ins" : Str))) (dNil))) (dCons (dBin (fAdd false) (dV 3) (dTup (dCons (dC (.int 0)) (dNil)))) (dCons (dDict0) (dCons (dC (.str ("?" : Str))) (dNil)))))))))))) (dSeq (dFor (iSeq (dV 4)) (gNm 6) (dSeq (dSet 7 (dAnd (dCB fIsi (dCons (dV 6) (dCons (dC (.ty "tuple")) (dNil)))) (dBin (fEq false) (dCB fRepr (dCons (dV 6) (dNil))) (dCB fRepr (dCons (dV 3) (dNil)))))) (dIfS (dB (dBin (fEq true) (dCB fRepr (dCons (dCB F_is_backing_shown (dCons (dV 1) (dCons (dV 2) (dCons (dV 6) (dNil))))) (dNil))) (dCB fRepr (dCons (dV 7) (dNil))))) (dRet (dC (.bl false))) (dPass)))) (dSeq (dFor (iZip2 (dCons (dBin (fAdd false) (dBin fIx (dV 1) (dC (.int 1))) (dTup (dCons (dBin fIx (dV 1) (dC (.int 3))) (dNil)))) (dCons (dBin (fAdd false) (dBin fIx (dV 2) (dC (.int 1))) (dTup (dCons (dBin fIx (dV 2) (dC (.int 3))) (dNil)))) (dNil)))) (gTp 2 (gsCons (gNm 8) (gsCons (gNm 9) (gsNil)))) (dIfS (bOr (dB (dBin (fEq true) (dCB fRepr (dCons (dCB F_covers (dCons (dV 8) (dCons (dV 9) (dNil)))) (dNil))) (dCB fRepr (dCons (dCB F_law_covers_L (dCons (dV 8) (dCons (dV 9) (dNil)))) (dNil))))) (dB (dBin (fIs true) (dCB F_is_hold (dCons (dV 8) (dNil))) (dC (.bl true))))) (dRet (dC (.bl false))) (dPass))) (dRet (dAnd (dBin (fIs false) (dCB F_is_promise (dCons (dV 1) (dNil))) (dC (.bl true))) (dBin (fIs false) (dCB F_is_promise (dCons (dV 2) (dNil))) (dC (.bl true))))))))))
def F_law_pair_right_L : List PV → Sto → Res PV := runF 3 10 d_law_pair_right_L
theorem sc_law_pair_right_L : FnScope (["hand", "one", "other", "due", "some", "part", "thing", "is_due", "here", "there"] : List Str) (["hand", "one", "other"] : List Str) (defScope s_law_pair_right_L) := ⟨rfl, rfl, rfl, by decide +kernel, rfl, by decide +kernel, by decide +kernel⟩
theorem fc_law_pair_right_L {Z : Wd} (B : Bi Z.mg) (hT : Z.T.lm = none) (h_law_shown_L : FC Z 2 "_law_shown" F_law_shown_L) (h_backing_shown : FC Z 9 "backing_shown" F_backing_shown) (h_backs : FC Z 8 "backs" F_backs) (h_is_backing_shown : FC Z 9 "is_backing_shown" F_is_backing_shown) (h_covers : FC Z 5 "covers" F_covers) (h_law_covers_L : FC Z 1 "_law_covers" F_law_covers_L) (h_is_hold : FC Z 3 "is_hold" F_is_hold) (h_is_promise : FC Z 6 "is_promise" F_is_promise) (D : DefOk Z "_law_pair_right" s_law_pair_right_L) : FC Z 10 "_law_pair_right" F_law_pair_right_L := by
  have Sc := sc_law_pair_right_L
  exact D.fc Sc (fun _ _ _ _ _ _ us hl => match us, hl with | [_, _, _], _ => rfl) fun f cdv A outer s H E C => by exact (css_cons (cs_set (i := 3) Sc.nd rfl (Or.inl rfl) (ce_call h_law_shown_L C (by decide) rfl (ca_cons (ce_v 1) (ca_cons (ce_v 2) ca_nil)))) (css_cons (cs_if (ct_w (cw_or (ct_cmp (op_neD (u64 C.u)) sn_ne (ce_callB (x := ("repr" : Str)) (call_reprD C.gd (u80 C.u)) sl_repr rfl B.b_repr PyProof.Rows.boot_repr (ca_cons (ce_call h_backing_shown C (by decide) rfl (ca_cons (ce_v 1) (ca_cons (ce_v 2) ca_nil))) ca_nil)) (ce_callB (x := ("repr" : Str)) (call_reprD C.gd (u80 C.u)) sl_repr rfl B.b_repr PyProof.Rows.boot_repr (ca_cons (ce_v 3) ca_nil)) rfl) (cw_or1 (ct_cmp (op_neD (u64 C.u)) sn_ne (ce_callB (x := ("repr" : Str)) (call_reprD C.gd (u80 C.u)) sl_repr rfl B.b_repr PyProof.Rows.boot_repr (ca_cons (ce_call h_backs C (by decide) rfl (ca_cons (ce_v 1) (ca_cons (ce_v 2) ca_nil))) ca_nil)) (ce_callB (x := ("repr" : Str)) (call_reprD C.gd (u80 C.u)) sl_repr rfl B.b_repr PyProof.Rows.boot_repr (ca_cons (ce_cmp (op_eqD (u64 C.u)) sn_eq (ce_v 3) (ce_tup (ca_cons ce_str ca_nil)) rfl) ca_nil)) rfl)))) (css_one (cs_ret ce_bl)) css_nil) (css_cons (cs_set (i := 4) Sc.nd rfl (Or.inl rfl) (ce_lst false (fun h => nomatch h) (ca_cons (ce_v 3) (ca_cons (ce_tup (ca_cons ce_str ca_nil)) (ca_cons (ce_tup (ca_cons ce_str ca_nil)) (ca_cons (ce_tup (ca_cons ce_str (ca_cons ce_int ca_nil))) (ca_cons (ce_tup (ca_cons ce_str (ca_cons ce_int ca_nil))) (ca_cons (ce_tup (ca_cons ce_str (ca_cons ce_int ca_nil))) (ca_cons (ce_tup (ca_cons ce_str ca_nil)) (ca_cons (ce_tup (ca_cons ce_str (ca_cons ce_int ca_nil))) (ca_cons (ce_tup (ca_cons ce_str (ca_cons ce_bl ca_nil))) ca_nil))))))))))) (css_cons (cs_set (i := 4) Sc.nd rfl (Or.inl rfl) (ce_bin op_addM (sn_add false (fun h => nomatch h)) (ce_v 4) (ce_lst false (fun h => nomatch h) (ca_cons ce_non (ca_cons ce_str (ca_cons (ce_tup ca_nil) (ca_cons (ce_lcC false (fun h => nomatch h) C Sc.nd (ci_seq (ce_v 3)) (show BlkOk (["hand", "one", "other", "due", "some", "part", "thing", "is_due", "here", "there"] : List Str) (defScope s_law_pair_right_L) _ [(("part" : Str), 5)] from blkOk_by (by decide +kernel)) (fun _ _ _ _ _ C => (pg_name (i := 5) Sc.nd rfl (Or.inl rfl) (Or.inr rfl))) (tgc_name (by decide)) (fun _ _ _ _ _ _ => pts_yes) (fun _ _ _ _ _ C => (ce_v 5))) (ca_cons (ce_tup (ca_cons ce_str ca_nil)) (ca_cons (ce_bin op_addM (sn_add false (fun h => nomatch h)) (ce_v 3) (ce_tup (ca_cons ce_int ca_nil))) (ca_cons ce_dict0 (ca_cons ce_str ca_nil))))))))))) (css_cons (cs_for C.po C.calm (ci_seq (ce_v 4)) (cg_name (i := 6) Sc.nd rfl (Or.inl rfl)) (css_cons (cs_set (i := 7) Sc.nd rfl (Or.inl rfl) (ce_and (ce_callB (x := ("isinstance" : Str)) call_isi sl_isi rfl B.b_isinstance PyProof.Rows.boot_isinstance (ca_cons (ce_v 6) (ca_cons (ce_bty rfl B.b_tuple PyProof.Rows.boot_tuple) ca_nil))) (ce_one (ce_cmp (op_eqD (u64 C.u)) sn_eq (ce_callB (x := ("repr" : Str)) (call_reprD C.gd (u80 C.u)) sl_repr rfl B.b_repr PyProof.Rows.boot_repr (ca_cons (ce_v 6) ca_nil)) (ce_callB (x := ("repr" : Str)) (call_reprD C.gd (u80 C.u)) sl_repr rfl B.b_repr PyProof.Rows.boot_repr (ca_cons (ce_v 3) ca_nil)) rfl)))) (css_one (cs_if (ct_cmp (op_neD (u64 C.u)) sn_ne (ce_callB (x := ("repr" : Str)) (call_reprD C.gd (u80 C.u)) sl_repr rfl B.b_repr PyProof.Rows.boot_repr (ca_cons (ce_call h_is_backing_shown C (by decide) rfl (ca_cons (ce_v 1) (ca_cons (ce_v 2) (ca_cons (ce_v 6) ca_nil)))) ca_nil)) (ce_callB (x := ("repr" : Str)) (call_reprD C.gd (u80 C.u)) sl_repr rfl B.b_repr PyProof.Rows.boot_repr (ca_cons (ce_v 7) ca_nil)) rfl) (css_one (cs_ret ce_bl)) css_nil)))) (css_cons (cs_for C.po C.calm (ci_zip rfl B.b_zip (ca_cons (ce_bin op_addM (sn_add false (fun h => nomatch h)) (ce_ix (ce_v 1) ce_int (fun _ _ => rfl)) (ce_tup (ca_cons (ce_ix (ce_v 1) ce_int (fun _ _ => rfl)) ca_nil))) (ca_cons (ce_bin op_addM (sn_add false (fun h => nomatch h)) (ce_ix (ce_v 2) ce_int (fun _ _ => rfl)) (ce_tup (ca_cons (ce_ix (ce_v 2) ce_int (fun _ _ => rfl)) ca_nil))) ca_nil))) (cg_tup C.calm (cgs_cons (fun _ _ _ _ _ h => h) (cg_name (i := 8) Sc.nd rfl (Or.inl rfl)) (cgs_cons (fun _ _ _ _ _ h => h) (cg_name (i := 9) Sc.nd rfl (Or.inl rfl)) cgs_nil))) (css_one (cs_if (ct_w (cw_or (ct_cmp (op_neD (u64 C.u)) sn_ne (ce_callB (x := ("repr" : Str)) (call_reprD C.gd (u80 C.u)) sl_repr rfl B.b_repr PyProof.Rows.boot_repr (ca_cons (ce_call h_covers C (by decide) rfl (ca_cons (ce_v 8) (ca_cons (ce_v 9) ca_nil))) ca_nil)) (ce_callB (x := ("repr" : Str)) (call_reprD C.gd (u80 C.u)) sl_repr rfl B.b_repr PyProof.Rows.boot_repr (ca_cons (ce_call h_law_covers_L C (by decide) rfl (ca_cons (ce_v 8) (ca_cons (ce_v 9) ca_nil))) ca_nil)) rfl) (cw_or1 (ct_cmp op_notA sn_notB (ce_call h_is_hold C (by decide) rfl (ca_cons (ce_v 8) ca_nil)) ce_bl rfl)))) (css_one (cs_ret ce_bl)) css_nil))) (css_one (cs_ret (ce_and (ce_cmp op_isA sn_isB (ce_call h_is_promise C (by decide) rfl (ca_cons (ce_v 1) ca_nil)) ce_bl rfl) (ce_one (ce_cmp op_isA sn_isB (ce_call h_is_promise C (by decide) rfl (ca_cons (ce_v 2) ca_nil)) ce_bl rfl)))))))))))
/-! _law_leads_right -/
abbrev s_law_leads_right_L : Stmt := top 55
def d_law_leads_right_L : EnP → Sto → SR := dSeq (dSet 3 (dLst false (dCons (dCB F_backs (dCons (dV 0) (dCons (dV 1) (dNil)))) (dCons (dCB F_backs (dCons (dV 1) (dCons (dV 2) (dNil)))) (dCons (dCB F_backs (dCons (dV 0) (dCons (dV 2) (dNil)))) (dNil)))))) (dSeq (dIfS (bAnd (dTru (dBin fIx (dV 3) (dC (.int 0)))) (bAnd (dTru (dBin fIx (dV 3) (dC (.int 1)))) (bNot (dTru (dBin fIx (dV 3) (dC (.int 2))))))) (dRet (dC (.bl false))) (dPass)) (dSeq (dIfS (dB (dBin (fEq true) (dCB F_backing_shown (dCons (dV 0) (dCons (dV 0) (dNil)))) (dTup (dCons (dC (.str ("backs" : Str))) (dNil))))) (dRet (dC (.bl false))) (dPass)) (dRet (dOr (dNot (dAnd (dBin fIx (dV 3) (dC (.int 0))) (dCB F_backs (dCons (dV 1) (dCons (dV 0) (dNil)))))) (dBin (fEq false) (dSl false (dV 0) (dPart (dC (.int 1))) (dNoPart)) (dSl false (dV 1) (dPart (dC (.int 1))) (dNoPart)))))))
def F_law_leads_right_L : List PV → Sto → Res PV := runF 3 4 d_law_leads_right_L
theorem sc_law_leads_right_L : FnScope (["one", "other", "third", "rows"] : List Str) (["one", "other", "third"] : List Str) (defScope s_law_leads_right_L) := ⟨rfl, rfl, rfl, by decide +kernel, rfl, by decide +kernel, by decide +kernel⟩
theorem fc_law_leads_right_L {Z : Wd} (B : Bi Z.mg) (hT : Z.T.lm = none) (h_backs : FC Z 8 "backs" F_backs) (h_backing_shown : FC Z 9 "backing_shown" F_backing_shown) (D : DefOk Z "_law_leads_right" s_law_leads_right_L) : FC Z 10 "_law_leads_right" F_law_leads_right_L := by
  have Sc := sc_law_leads_right_L
  exact D.fc Sc (fun _ _ _ _ _ _ us hl => match us, hl with | [_, _, _], _ => rfl) fun f cdv A outer s H E C => by exact (css_cons (cs_set (i := 3) Sc.nd rfl (Or.inl rfl) (ce_lst false (fun h => nomatch h) (ca_cons (ce_call h_backs C (by decide) rfl (ca_cons (ce_v 0) (ca_cons (ce_v 1) ca_nil))) (ca_cons (ce_call h_backs C (by decide) rfl (ca_cons (ce_v 1) (ca_cons (ce_v 2) ca_nil))) (ca_cons (ce_call h_backs C (by decide) rfl (ca_cons (ce_v 0) (ca_cons (ce_v 2) ca_nil))) ca_nil))))) (css_cons (cs_if (ct_w (cw_and (ct_tru (ce_ix (ce_v 3) ce_int (fun _ _ => rfl))) (cw_and (ct_tru (ce_ix (ce_v 3) ce_int (fun _ _ => rfl))) (cw_and1 (ct_not (ct_tru (ce_ix (ce_v 3) ce_int (fun _ _ => rfl)))))))) (css_one (cs_ret ce_bl)) css_nil) (css_cons (cs_if (ct_cmp (op_neD (u64 C.u)) sn_ne (ce_call h_backing_shown C (by decide) rfl (ca_cons (ce_v 0) (ca_cons (ce_v 0) ca_nil))) (ce_tup (ca_cons ce_str ca_nil)) rfl) (css_one (cs_ret ce_bl)) css_nil) (css_one (cs_ret (ce_or (ce_not (ce_and (ce_ix (ce_v 3) ce_int (fun _ _ => rfl)) (ce_one (ce_call h_backs C (by decide) rfl (ca_cons (ce_v 1) (ca_cons (ce_v 0) ca_nil)))))) (ce_one (ce_cmp (op_eqD (u64 C.u)) sn_eq (ce_sl false (fun h => nomatch h) (ce_v 0) (co_some ce_int) co_none) (ce_sl false (fun h => nomatch h) (ce_v 1) (co_some ce_int) co_none) rfl))))))))
/-! _law_said -/
abbrev s_law_said_L : Stmt := top 56
def d_law_said_L (K : Sto → Res PV) : EnP → Sto → SR := dSeq (dTry 1 catT (dExpr (dAct 0 K)) (fun c1 fs => dRet (dIf (bAnd (dTru (dCB (fIsE (isF fs (isT c1))) (dCons (dV 1) (dCons (dC (.glb ("NoPromise" : Str))) (dNil))))) (dTru (dCB (fIsE (isF fs (isT c1))) (dCons (dV 1) (dCons (dC (.ty "ValueError")) (dNil)))))) (dC (.str ("promise" : Str))) (dC (.str ("other" : Str)))))) (dRet (dC (.str ("let" : Str))))
def G_law_said_L : (Sto → Res PV) → Sto → Res PV := lamF 2 d_law_said_L
theorem sc_law_said_L : FnScope (["call", "error"] : List Str) (["call"] : List Str) (defScope s_law_said_L) := ⟨rfl, rfl, rfl, by decide +kernel, rfl, by decide +kernel, by decide +kernel⟩
theorem fl_law_said_L {Z : Wd} (B : Bi Z.mg) (hT : Z.T.lm = none) (e_NoPromise : EC Z.K Z.mg "NoPromise") {CR : Addr} (hCR : Z.mg "RoundError" = some (.ref CR)) (hcat : ∀ c b, catT c = some b → ∀ C, Z.mg c = some (.ref C) → PySem.W.exmOne Z.K (.ref C) (.ref CR) = some b) (hE : ∀ c C fs (d : Option Addr), Z.mg c = some (.ref C) → (fs = [] → d = none) → (ExcC Z.K C ∧ IsT Z.K Z.mg C (isF fs (isT c))) ∨ ∀ t, isF fs (isT c) t = none) (D : DefOk Z "_law_said" s_law_said_L) : FL Z 0 "_law_said" G_law_said_L := by
  have Sc := sc_law_said_L
  exact D.fl Sc (fun _ _ _ _ _ _ us hl => match us, hl with | [_], _ => rfl) rfl (Or.inl rfl) fun i K f cdv A outer s H E C act => by exact (css_cons (cs_try rfl rfl Sc.nd rfl rfl ⟨rfl, by decide, .inl hCR⟩ C.tk hcat (fun W1 pn xe tk1 po1 => (css_one (cs_expr (act pn xe W1 _ _ tk1)))) (fun c1 fs D a1 oe1 dd pn1 h1 h2 hz hv => (css_one (cs_ret (ce_if (ct_w (cw_and (ct_tru (ce_isE (hE c1 D fs dd h1 h2) hz hv B.b_isinstance rfl (ca_cons (ce_v 1) (ca_cons (ce_ge e_NoPromise rfl) ca_nil)))) (cw_and1 (ct_tru (ce_isE (hE c1 D fs dd h1 h2) hz hv B.b_isinstance rfl (ca_cons (ce_v 1) (ca_cons (ce_bty rfl B.b_ValueError (by decide +kernel)) ca_nil))))))) ce_str ce_str))))) (css_one (cs_ret ce_str)))
/-! _law_two_said -/
abbrev s_law_two_said_L : Stmt := top 57
def t_law_two_said_L : Str → Option (List PV → Sto → Res PV) := fun x => if x = "backing_shown" then some F_backing_shown else if x = "backs" then some F_backs else none
def d_law_two_said_L : EnP → Sto → SR := dRet (fun ρ S => G_law_said_L (fun S => (dCallV 0 t_law_two_said_L (dCons (dV 1) (dCons (dV 2) (dNil)))) ρ S) S)
def F_law_two_said_L : List PV → Sto → Res PV := runF 3 3 d_law_two_said_L
theorem sc_law_two_said_L : FnScope (["ask", "one", "other"] : List Str) (["ask", "one", "other"] : List Str) (defScope s_law_two_said_L) := ⟨rfl, rfl, rfl, by decide +kernel, rfl, by decide +kernel, by decide +kernel⟩
theorem fc_law_two_said_L {Z : Wd} (B : Bi Z.mg) (hT : Z.T.lm = none) (h_backing_shown : FC Z 9 "backing_shown" F_backing_shown) (h_backs : FC Z 8 "backs" F_backs) (g_law_said_L : FL Z 0 "_law_said" G_law_said_L) {cA cP : Addr} (hTB : LamX.TabB Z.base Z.mg cA cP) (hMem : (cP, ("_law_two_said.<locals>.<lambda>" : Str)) ∈ Z.T.tabs) (hU : ∀ p ∈ Z.T.tabs, p.1 = cP → p.2 = ("_law_two_said.<locals>.<lambda>" : Str)) (D : DefOkC Z "_law_two_said" s_law_two_said_L cA) : FC Z 23 "_law_two_said" F_law_two_said_L := by
  have Sc := sc_law_two_said_L
  have hV : ∀ x F, t_law_two_said_L x = some F → FC Z 9 x F := fun x F e => by
    unfold t_law_two_said_L at e
    split at e
    · subst_vars; cases e; exact (FC.mono h_backing_shown (by decide))
    split at e
    · subst_vars; cases e; exact (FC.mono h_backs (by decide))
    cases e
  exact D.fc Sc (fun _ _ _ _ _ _ us hl => match us, hl with | [_, _, _], _ => rfl) fun f A outer s H E C => by exact (css_one (cs_ret (ce_lam (kl := 20) g_law_said_L C (by decide) (by decide) hT rfl hTB rfl hMem hU (show LamX.LamS (defScope s_law_two_said_L) _ from LamX.lamS_by (by decide +kernel)) rfl (fun _ _ _ _ _ => rfl) (fun A1 outer1 s1 H1 E1 f1 c1 hr1 hg1 => have C := ctx_lam hr1 hg1; (ce_callV C hV (by decide) rfl (by first | exact Or.inl rfl | exact Or.inr (Or.inl rfl) | exact Or.inr (Or.inr rfl)) (ca_cons (ce_v 1) (ca_cons (ce_v 2) ca_nil)))))))
/-! law -/
abbrev s_law : Stmt := top 58
def d_law : EnP → Sto → SR := dSeq (dSet 1 (dCB F_law_hand_L (dCons (dV 0) (dNil)))) (dSeq (dAsg (dTup (dCons (dTup (dCons (dTup (dCons (dC (.int 0)) (dCons (dC (.int 1)) (dNil)))) (dCons (dTup (dCons (dC (.int 1)) (dCons (dC (.int 1)) (dNil)))) (dCons (dTup (dCons (dC (.int 0)) (dCons (dC (.int 1)) (dNil)))) (dNil))))) (dCons (dTup (dCons (dTup (dCons (dC (.int 0)) (dCons (dC (.int 1)) (dNil)))) (dCons (dTup (dCons (dC (.int 2)) (dCons (dC (.int 1)) (dNil)))) (dCons (dTup (dCons (dC (.int 1)) (dCons (dC (.int 8)) (dNil)))) (dNil))))) (dNil)))) (gTp 2 (gsCons (gNm 2) (gsCons (gNm 3) (gsNil))))) (dSeq (dAsg (dTup (dCons (dTup (dCons (dC (.str ("a" : Str))) (dCons (dTup (dCons (dV 3) (dNil))) (dCons (dTup (dNil)) (dCons (dV 2) (dNil)))))) (dCons (dTup (dCons (dC (.str ("b" : Str))) (dCons (dTup (dCons (dV 2) (dNil))) (dCons (dTup (dNil)) (dCons (dV 3) (dNil)))))) (dNil)))) (gTp 2 (gsCons (gNm 4) (gsCons (gNm 5) (gsNil))))) (dSeq (dIfS (bOr (dB (dBin (fEq true) (dCB F_backing_shown (dCons (dV 4) (dCons (dV 5) (dNil)))) (dTup (dCons (dC (.str ("backs" : Str))) (dNil))))) (dB (dBin (fEq true) (dCB F_backing_shown (dCons (dV 5) (dCons (dV 4) (dNil)))) (dTup (dCons (dC (.str ("ins" : Str))) (dCons (dC (.int 0)) (dNil))))))) (dRet (dC (.bl false))) (dPass)) (dSeq (dFor (iRange (dCons (dC (.int 6)) (dNil))) (gNm 6) (dSeq (dSet 4 (dCB F_law_promise_L (dCons (dV 1) (dNil)))) (dSeq (dSet 5 (dCB F_law_any_L (dCons (dV 1) (dCons (dLst false (dCons (dCB F_law_near_L (dCons (dV 1) (dCons (dV 4) (dNil)))) (dCons (dCB F_law_near_L (dCons (dV 1) (dCons (dV 4) (dNil)))) (dCons (dCB F_law_promise_L (dCons (dV 1) (dNil))) (dNil))))) (dNil))))) (dSeq (dSet 7 (dCB F_law_near_L (dCons (dV 1) (dCons (dV 5) (dNil))))) (dSeq (dIfS (bOr (bNot (dTru (dCB F_law_pair_right_L (dCons (dV 1) (dCons (dV 4) (dCons (dV 5) (dNil))))))) (bNot (dTru (dCB F_law_pair_right_L (dCons (dV 1) (dCons (dV 5) (dCons (dV 4) (dNil)))))))) (dRet (dC (.bl false))) (dPass)) (dSeq (dIfS (bNot (dTru (dCB F_law_leads_right_L (dCons (dV 4) (dCons (dV 5) (dCons (dV 7) (dNil))))))) (dRet (dC (.bl false))) (dPass)) (dSeq (dSet 8 (dCB F_law_any_L (dCons (dV 1) (dCons (dLst false (dCons (dC .non) (dCons (dC (.str ("?" : Str))) (dCons (dTup (dNil)) (dCons (dSl false (dV 4) (dNoPart) (dPart (dC (.int 3)))) (dCons (dBin (fAdd false) (dTup (dCons (dC (.str ("A" : Str))) (dNil))) (dSl false (dV 4) (dPart (dC (.int 1))) (dNoPart))) (dCons (dLst false (dCons (dBin fIx (dV 4) (dC (.int 0))) (dCons (dBin fIx (dV 4) (dC (.int 1))) (dCons (dBin fIx (dV 4) (dC (.int 2))) (dCons (dBin fIx (dV 4) (dC (.int 3))) (dNil)))))) (dCons (dDict0) (dNil))))))))) (dNil))))) (dSeq (dSet 9 (dLst true (dNil))) (dSeq (dFor (iSeq (dTup (dCons (dC (.glb ("backing_shown" : Str))) (dCons (dC (.glb ("backs" : Str))) (dNil))))) (gNm 10) (dSet 9 (dBin (fAdd true) (dV 9) (dLst false (dCons (dCB F_law_two_said_L (dCons (dV 10) (dCons (dV 8) (dCons (dV 4) (dNil))))) (dCons (dCB F_law_two_said_L (dCons (dV 10) (dCons (dV 4) (dCons (dV 8) (dNil))))) (dNil))))))) (dSeq (dExpr (dApp (dV 9) (dCons (fun ρ S => G_law_said_L (fun S => (dCB F_is_backing_shown (dCons (dV 8) (dCons (dV 4) (dCons (dC .non) (dNil))))) ρ S) S) (dNil)))) (dIfS (dB (dBin (fEq true) (dV 9) (dBin (fMul false) (dLst false (dCons (dC (.str ("promise" : Str))) (dNil))) (dC (.int 5))))) (dRet (dC (.bl false))) (dPass)))))))))))) (dRet (dC (.bl true)))))))
def F_law : List PV → Sto → Res PV := runF 1 11 d_law
theorem sc_law : FnScope (["script", "hand", "unit", "wide", "one", "other", "turn", "third", "bad", "words", "ask"] : List Str) (["script"] : List Str) (defScope s_law) := ⟨rfl, rfl, rfl, by decide +kernel, rfl, by decide +kernel, by decide +kernel⟩
theorem fc_law {Z : Wd} (B : Bi Z.mg) (hT : Z.T.lm = none) (h_law_hand_L : FC Z 1 "_law_hand" F_law_hand_L) (h_backing_shown : FC Z 9 "backing_shown" F_backing_shown) (h_law_promise_L : FC Z 4 "_law_promise" F_law_promise_L) (h_law_any_L : FC Z 2 "_law_any" F_law_any_L) (h_law_near_L : FC Z 4 "_law_near" F_law_near_L) (h_law_pair_right_L : FC Z 10 "_law_pair_right" F_law_pair_right_L) (h_law_leads_right_L : FC Z 10 "_law_leads_right" F_law_leads_right_L) (h_backs : FC Z 8 "backs" F_backs) (h_law_two_said_L : FC Z 23 "_law_two_said" F_law_two_said_L) (h_is_backing_shown : FC Z 9 "is_backing_shown" F_is_backing_shown) (g_law_said_L : FL Z 0 "_law_said" G_law_said_L) {cA cP : Addr} (hTB : LamX.TabB Z.base Z.mg cA cP) (hMem : (cP, ("law.<locals>.<lambda>" : Str)) ∈ Z.T.tabs) (hU : ∀ p ∈ Z.T.tabs, p.1 = cP → p.2 = ("law.<locals>.<lambda>" : Str)) (D : DefOkC Z "law" s_law cA) : FC Z 24 "law" F_law := by
  have Sc := sc_law
  exact D.fc Sc (fun _ _ _ _ _ _ us hl => match us, hl with | [_], _ => rfl) fun f A outer s H E C => by exact (css_cons (cs_set (i := 1) Sc.nd rfl (Or.inl rfl) (ce_call h_law_hand_L C (by decide) rfl (ca_cons (ce_v 0) ca_nil))) (css_cons (cs_asg (ce_tup (ca_cons (ce_tup (ca_cons (ce_tup (ca_cons ce_int (ca_cons ce_int ca_nil))) (ca_cons (ce_tup (ca_cons ce_int (ca_cons ce_int ca_nil))) (ca_cons (ce_tup (ca_cons ce_int (ca_cons ce_int ca_nil))) ca_nil)))) (ca_cons (ce_tup (ca_cons (ce_tup (ca_cons ce_int (ca_cons ce_int ca_nil))) (ca_cons (ce_tup (ca_cons ce_int (ca_cons ce_int ca_nil))) (ca_cons (ce_tup (ca_cons ce_int (ca_cons ce_int ca_nil))) ca_nil)))) ca_nil))) (cg_tup C.calm (cgs_cons (fun _ _ _ _ _ h => h) (cg_name (i := 2) Sc.nd rfl (Or.inl rfl)) (cgs_cons (fun _ _ _ _ _ h => h) (cg_name (i := 3) Sc.nd rfl (Or.inl rfl)) cgs_nil)))) (css_cons (cs_asg (ce_tup (ca_cons (ce_tup (ca_cons ce_str (ca_cons (ce_tup (ca_cons (ce_v 3) ca_nil)) (ca_cons (ce_tup ca_nil) (ca_cons (ce_v 2) ca_nil))))) (ca_cons (ce_tup (ca_cons ce_str (ca_cons (ce_tup (ca_cons (ce_v 2) ca_nil)) (ca_cons (ce_tup ca_nil) (ca_cons (ce_v 3) ca_nil))))) ca_nil))) (cg_tup C.calm (cgs_cons (fun _ _ _ _ _ h => h) (cg_name (i := 4) Sc.nd rfl (Or.inr rfl)) (cgs_cons (fun _ _ _ _ _ h => h) (cg_name (i := 5) Sc.nd rfl (Or.inl rfl)) cgs_nil)))) (css_cons (cs_if (ct_w (cw_or (ct_cmp (op_neD (u64 C.u)) sn_ne (ce_call h_backing_shown C (by decide) rfl (ca_cons (ce_v 4) (ca_cons (ce_v 5) ca_nil))) (ce_tup (ca_cons ce_str ca_nil)) rfl) (cw_or1 (ct_cmp (op_neD (u64 C.u)) sn_ne (ce_call h_backing_shown C (by decide) rfl (ca_cons (ce_v 5) (ca_cons (ce_v 4) ca_nil))) (ce_tup (ca_cons ce_str (ca_cons ce_int ca_nil))) rfl)))) (css_one (cs_ret ce_bl)) css_nil) (css_cons (cs_for C.po C.calm (ci_range1 rfl B.b_range (ca_cons ce_int ca_nil) rfl len1) (cg_name (i := 6) Sc.nd rfl (Or.inl rfl)) (css_cons (cs_set (i := 4) Sc.nd rfl (Or.inr rfl) (ce_call h_law_promise_L C (by decide) rfl (ca_cons (ce_v 1) ca_nil))) (css_cons (cs_set (i := 5) Sc.nd rfl (Or.inl rfl) (ce_call h_law_any_L C (by decide) rfl (ca_cons (ce_v 1) (ca_cons (ce_lst false (fun h => nomatch h) (ca_cons (ce_call h_law_near_L C (by decide) rfl (ca_cons (ce_v 1) (ca_cons (ce_v 4) ca_nil))) (ca_cons (ce_call h_law_near_L C (by decide) rfl (ca_cons (ce_v 1) (ca_cons (ce_v 4) ca_nil))) (ca_cons (ce_call h_law_promise_L C (by decide) rfl (ca_cons (ce_v 1) ca_nil)) ca_nil)))) ca_nil)))) (css_cons (cs_set (i := 7) Sc.nd rfl (Or.inl rfl) (ce_call h_law_near_L C (by decide) rfl (ca_cons (ce_v 1) (ca_cons (ce_v 5) ca_nil)))) (css_cons (cs_if (ct_w (cw_or (ct_not (ct_tru (ce_call h_law_pair_right_L C (by decide) rfl (ca_cons (ce_v 1) (ca_cons (ce_v 4) (ca_cons (ce_v 5) ca_nil)))))) (cw_or1 (ct_not (ct_tru (ce_call h_law_pair_right_L C (by decide) rfl (ca_cons (ce_v 1) (ca_cons (ce_v 5) (ca_cons (ce_v 4) ca_nil))))))))) (css_one (cs_ret ce_bl)) css_nil) (css_cons (cs_if (ct_not (ct_tru (ce_call h_law_leads_right_L C (by decide) rfl (ca_cons (ce_v 4) (ca_cons (ce_v 5) (ca_cons (ce_v 7) ca_nil)))))) (css_one (cs_ret ce_bl)) css_nil) (css_cons (cs_set (i := 8) Sc.nd rfl (Or.inr rfl) (ce_call h_law_any_L C (by decide) rfl (ca_cons (ce_v 1) (ca_cons (ce_lst false (fun h => nomatch h) (ca_cons ce_non (ca_cons ce_str (ca_cons (ce_tup ca_nil) (ca_cons (ce_sl false (fun h => nomatch h) (ce_v 4) co_none (co_some ce_int)) (ca_cons (ce_bin op_addM (sn_add false (fun h => nomatch h)) (ce_tup (ca_cons ce_str ca_nil)) (ce_sl false (fun h => nomatch h) (ce_v 4) (co_some ce_int) co_none)) (ca_cons (ce_lst false (fun h => nomatch h) (ca_cons (ce_ix (ce_v 4) ce_int (fun _ _ => rfl)) (ca_cons (ce_ix (ce_v 4) ce_int (fun _ _ => rfl)) (ca_cons (ce_ix (ce_v 4) ce_int (fun _ _ => rfl)) (ca_cons (ce_ix (ce_v 4) ce_int (fun _ _ => rfl)) ca_nil))))) (ca_cons ce_dict0 ca_nil)))))))) ca_nil)))) (css_cons (cs_set (i := 9) Sc.nd rfl (Or.inl rfl) (ce_lst true (fun _ => gm_bare C.room.hd hT) ca_nil)) (css_cons (cs_for C.po C.calm (ci_seq (ce_tup (ca_cons (ce_gf h_backing_shown rfl) (ca_cons (ce_gf h_backs rfl) ca_nil)))) (cg_name (i := 10) Sc.nd rfl (Or.inl rfl)) (css_one (cs_set (i := 9) Sc.nd rfl (Or.inl rfl) (ce_bin op_addM (sn_add true (fun _ => gm_bare C.room.hd hT)) (ce_v 9) (ce_lst false (fun h => nomatch h) (ca_cons (ce_call h_law_two_said_L C (by decide) rfl (ca_cons (ce_v 10) (ca_cons (ce_v 8) (ca_cons (ce_v 4) ca_nil)))) (ca_cons (ce_call h_law_two_said_L C (by decide) rfl (ca_cons (ce_v 10) (ca_cons (ce_v 4) (ca_cons (ce_v 8) ca_nil)))) ca_nil))))))) (css_cons (cs_expr (ce_app (gm_bare C.room.hd hT) (ce_v 9) (ca_cons (ce_lam (kl := 20) g_law_said_L C (by decide) (by decide) hT rfl hTB rfl hMem hU (show LamX.LamS (defScope s_law) _ from LamX.lamS_by (by decide +kernel)) rfl (fun _ _ _ _ _ => rfl) (fun A1 outer1 s1 H1 E1 f1 c1 hr1 hg1 => have C := ctx_lam hr1 hg1; (ce_call h_is_backing_shown C (by decide) rfl (ca_cons (ce_v 8) (ca_cons (ce_v 4) (ca_cons ce_non ca_nil)))))) ca_nil))) (css_one (cs_if (ct_cmp (op_neD (u64 C.u)) sn_ne (ce_v 9) (ce_bin op_mulM (sn_mul false (fun h => nomatch h)) (ce_lst false (fun h => nomatch h) (ca_cons ce_str ca_nil)) ce_int) rfl) (css_one (cs_ret ce_bl)) css_nil)))))))))))) (css_one (cs_ret ce_bl)))))))
end G72
end
section
set_option Elab.async false
set_option linter.all false
set_option maxRecDepth 100000
set_option maxHeartbeats 4000000
namespace G72
open PySem PySem.Spec PyProof.Rows L2 Mi Ra

/-! ### fractions -/
theorem gcd_loop (n : Nat) : ∀ (a b : Nat) (S : Sto), b < n → whileP (dB (dBin (fCmpI iGt) (dV 1) (dC (.int 0)))) (dPar 0 1 (dCons (dV 1) (dCons (dBin fMod (dV 0) (dV 1)) (dNil)))) n [some (.int a), some (.int b)] S = .nx [some (.int (Nat.gcd a b)), some (.int 0)] S := by
  induction n with
  | zero => intro a b S h; omega
  | succ n ih =>
    intro a b S h
    rw [whileP]
    by_cases hb : b = 0
    · subst hb
      simp [runF, startP, endOf, dRet, dRetN, dIf, dIfS, dB, dBin, dUn, dV, dC, sE, asB, dSeq, dSet, dPar, dPar3, dAsg, dExpr, dAnd, dOr, dNot, bAnd, bOr, bNot, dTru, dCB, dCons, dNil, dTup, dLst, dChain, dPass, fCmpI, fIsN, gTp, gsCons, gsNil, gNm, mkTup, dSl, dPart, dNoPart, lim, iLt, iLe, iGt, iGe]
    · have hp : (0 : Int) < (b : Int) := by omega
      have e : fMod (.int a) (.int b) S = .ok (.int ((a % b : Nat) : Int)) S := by rw [mod_sm hp, fmod_nat]
      have lt := Nat.mod_lt a (by omega : 0 < b)
      have step := ih b (a % b) S (by omega)
      have hg : Nat.gcd b (a % b) = Nat.gcd a b := by rw [Nat.gcd_comm a b, Nat.gcd_rec b a, Nat.gcd_comm]
      simp only [runF, startP, endOf, dRet, dRetN, dIf, dIfS, dB, dBin, dUn, dV, dC, sE, asB, dSeq, dSet, dPar, dPar3, dAsg, dExpr, dAnd, dOr, dNot, bAnd, bOr, bNot, dTru, dCB, dCons, dNil, dTup, dLst, dChain, dPass, fCmpI, fIsN, gTp, gsCons, gsNil, gNm, mkTup, dSl, dPart, dNoPart, lim, iLt, iLe, iGt, iGe, List.getElem?_cons_succ, List.getElem?_cons_zero, Res.bind_ok, iGt, decide_eq_true hp, if_true, e, List.set_cons_zero, List.set_cons_succ]
      rw [step, hg]
theorem e_gcd {a b : Int} {S : Sto} (hb : b.natAbs < fuel) : F_common_divisor [.int a, .int b] S = .ok (.int (Int.gcd a b)) S := by
  have ab : ∀ i : Int, (if i < 0 then -i else i) = (i.natAbs : Int) := fun i => by split <;> omega
  have h := gcd_loop fuel a.natAbs b.natAbs S hb
  have e : F_common_divisor [.int a, .int b] S = endOf (match whileP (dB (dBin (fCmpI iGt) (dV 1) (dC (.int 0)))) (dPar 0 1 (dCons (dV 1) (dCons (dBin fMod (dV 0) (dV 1)) (dNil)))) fuel [some (.int (if a < 0 then -a else a)), some (.int (if b < 0 then -b else b))] S with
    | .nx ρ' S' => dRet (dV 0) ρ' S'
    | r => r) := rfl
  rw [e, ab, ab, h]
  rfl
theorem fuel_big {n : Nat} (h : n ≤ 10 ^ 601) : n < fuel := Nat.lt_of_le_of_lt h (by decide +kernel)
theorem e_too_great (S : Sto) : F_too_great [] S = .ok (.int big) S := by kernel_rfl
theorem gcd_sm {a b : Int} (hb : b ≠ 0) (h : b.natAbs ≤ 10 ^ 601) : 0 < ((Int.gcd a b : Nat) : Int) ∧ ((Int.gcd a b : Nat) : Int).natAbs ≤ 2 ^ 4000 := by
  have p := Int.gcd_pos_of_ne_zero_right a hb
  have l : Int.gcd a b ≤ b.natAbs := by
    have d : (Int.gcd a b : Nat) ∣ b.natAbs := Nat.gcd_dvd_right _ _
    exact Nat.le_of_dvd (by omega) d
  refine ⟨by omega, ?_⟩
  have := le4000 h
  rw [Int.natAbs_natCast]
  omega
/-- what made tells -/
def rQ (q : Rat) (S : Sto) : Res PV := if q.num.natAbs < 10 ^ 300 ∧ q.den < 10 ^ 300 then .ok (eQ q) S else .exc "NoFraction" [] S
theorem rQ_ok {q : Rat} {S : Sto} (h : Ok q) : rQ q S = .ok (eQ q) S := if_pos ⟨h.n, h.d⟩
theorem big_is : big = ((10 ^ 300 : Nat) : Int) := by decide +kernel
theorem q_lim {q : Rat} (h : Ok q) : q.den ≤ 10 ^ 601 := by have := h.d; omega
theorem e_fraction {q : Rat} {S : Sto} (h : Ok q) : F_is_fraction [eQ q] S = .ok (.bl true) S := by
  have h1 : dLc false (iSeq (dV 0)) (cNm 1) (dYes) (dCB F_is_integer (dCons (dV 1) (dNil))) [1] [some (eQ q), none, none] S = .ok (.nl [.bl true, .bl true]) S := rfl
  have h2 : fAll [.nl [.bl true, .bl true]] S = .ok (.bl true) S := rfl
  have h3 : fIsi [eQ q, .ty "tuple"] S = .ok (.bl true) S := rfl
  have h4 : fLen [eQ q] S = .ok (.int 2) S := rfl
  have h5 := e_gcd (a := q.num) (b := q.den) (S := S) (fuel_big (by rw [Int.natAbs_natCast]; exact q_lim h))
  have h6 : ((Int.gcd q.num q.den : Nat) : Int) = 1 := by
    have := q.reduced
    have e : Int.gcd q.num q.den = 1 := this
    rw [e]; rfl
  have p : 0 < q.den := q.den_pos
  have l1 : (q.den : Int) < big := by rw [big_is]; have := h.d; omega
  have l2 : ¬ big ≤ (if q.num < 0 then -q.num else q.num) := by rw [big_is]; have := h.n; split <;> omega
  simp [F_is_fraction, d_is_fraction, runF, startP, endOf, dRet, dRetN, dIf, dIfS, dB, dBin, dUn, dV, dC, sE, asB, dSeq, dSet, dPar, dPar3, dAsg, dExpr, dAnd, dOr, dNot, bAnd, bOr, bNot, dTru, dCB, dCons, dNil, dTup, dLst, dChain, dPass, fCmpI, fIsN, gTp, gsCons, gsNil, gNm, mkTup, dSl, dPart, dNoPart, lim, iLt, iLe, iGt, iGe, h1, h2, h3, h4, h5, w_eq, truP, e_too_great, ix_q0, ix_q1, w_abs, p, l1, l2, h6]
theorem dd_lim {x y : Rat} (hx : Ok x) (hy : Ok y) : ((x.den : Int) * (y.den : Int)).natAbs ≤ 10 ^ 601 := by
  have a := mul_abs hx.bd.dn hy.bd.dn
  exact Nat.le_trans a (by decide +kernel)
theorem sm_n {q : Rat} (h : Ok q) : q.num.natAbs ≤ 2 ^ 4000 := Nat.le_trans h.bd.n (by decide +kernel)
theorem sm_d {q : Rat} (h : Ok q) : (q.den : Int).natAbs ≤ 2 ^ 4000 := Nat.le_trans h.bd.dn (by decide +kernel)
theorem dn_lim {x y : Rat} (hx : Ok x) (hy : Ok y) : ((x.den : Int) * y.num).natAbs ≤ 10 ^ 601 := by
  have a := mul_abs hx.bd.dn hy.bd.n
  exact Nat.le_trans a (by decide +kernel)
theorem e_raw_at_most {x y : Rat} {S : Sto} (hx : Ok x) (hy : Ok y) : F_raw_at_most [eQ x, eQ y] S = .ok (.bl (decide (x ≤ y))) S := by
  have a1 := fun S => mul_sm (S := S) (sm_n hx) (sm_d hy)
  have a2 := fun S => mul_sm (S := S) (sm_n hy) (sm_d hx)
  have e : decide (x.num * (y.den : Int) ≤ y.num * (x.den : Int)) = decide (x ≤ y) := decide_eq_decide.mpr le_iff
  simp [F_raw_at_most, d_raw_at_most, runF, startP, endOf, dRet, dRetN, dIf, dIfS, dB, dBin, dUn, dV, dC, sE, asB, dSeq, dSet, dPar, dPar3, dAsg, dExpr, dAnd, dOr, dNot, bAnd, bOr, bNot, dTru, dCB, dCons, dNil, dTup, dLst, dChain, dPass, fCmpI, fIsN, gTp, gsCons, gsNil, gNm, mkTup, dSl, dPart, dNoPart, lim, iLt, iLe, iGt, iGe, ix_q0, ix_q1, a1, a2, e]
end G72
end
section
set_option Elab.async false
set_option linter.all false
set_option maxRecDepth 100000
set_option maxHeartbeats 4000000
namespace G72
open PySem PySem.Spec PyProof.Rows L2 Mi Ra
theorem pw_loop (b : Nat) : ∀ (xs : List PV) (f : Nat) (e t : Option PV) (S : Sto), f * b ^ xs.length ≤ 2 ^ 4000 → 0 < b → b ≤ 1000 →
    ∃ t', forP (gNm 3) (dSet 2 (dBin (fMul false) (dV 2) (dV 0))) xs [some (.int b), e, some (.int f), t] S = .nx [some (.int b), e, some (.int ((f * b ^ xs.length : Nat) : Int)), t'] S
  | [], f, e, t, S, _, _, _ => ⟨t, by simp [forP]⟩
  | x :: xs, f, e, t, S, h, hb, hb2 => by
    rw [List.length_cons, Nat.pow_succ] at h
    have e1 : f * (b ^ xs.length * b) = f * b * b ^ xs.length := by rw [Nat.mul_comm (b ^ xs.length) b, Nat.mul_assoc]
    rw [e1] at h
    have p : 0 < b ^ xs.length := Nat.pow_pos hb
    have hf : f * b ≤ 2 ^ 4000 := Nat.le_trans (Nat.le_mul_of_pos_right _ p) h
    have hf2 : f ≤ 2 ^ 4000 := Nat.le_trans (Nat.le_mul_of_pos_right _ hb) hf
    have m := fun S => mul_sm (i := (f : Int)) (j := (b : Int)) (S := S) (by simpa using hf2) (by rw [Int.natAbs_natCast]; exact Nat.le_trans hb2 (by decide +kernel))
    obtain ⟨t', ih⟩ := pw_loop b xs (f * b) e (some x) S h hb hb2
    refine ⟨t', ?_⟩
    rw [forP, List.length_cons, Nat.pow_succ, e1, ← ih]
    simp [runF, startP, endOf, dRet, dRetN, dIf, dIfS, dB, dBin, dUn, dV, dC, sE, asB, dSeq, dSet, dPar, dPar3, dAsg, dExpr, dAnd, dOr, dNot, bAnd, bOr, bNot, dTru, dCB, dCons, dNil, dTup, dLst, dChain, dPass, fCmpI, fIsN, gTp, gsCons, gsNil, gNm, mkTup, dSl, dPart, dNoPart, lim, iLt, iLe, iGt, iGe, m]
end G72
end
section
set_option Elab.async false
set_option linter.all false
set_option maxRecDepth 100000
set_option maxHeartbeats 4000000
namespace G72
open PySem PySem.Spec PyProof.Rows L2 Mi Ra

/-! ### formats -/
theorem ix_f0 (f : Fm) (S : Sto) : fIx (eF f) (.int 0) S = .ok (.int f.b) S := rfl
theorem ix_f1 (f : Fm) (S : Sto) : fIx (eF f) (.int 1) S = .ok (.int f.k) S := rfl
theorem ix_f2 (f : Fm) (S : Sto) : fIx (eF f) (.int 2) S = .ok (.int f.lo) S := rfl
theorem ix_f3 (f : Fm) (S : Sto) : fIx (eF f) (.int 3) S = .ok (.int f.hi) S := rfl
abbrev sQ (x : Rat) (S : Sto) : PV := eQ x
theorem pw_parts {b : Nat} (hb : 0 < b) (e : Int) : ∃ M : Nat, 0 < M ∧ M = (pw b e).den ∧ ∃ T : Nat, (pw b e).num = (T : Int) ∧ (T : Rat) = pw b e * (M : Rat) := by
  have p := pw_pos hb e
  have n : 0 ≤ (pw b e).num := num_nn.mpr (Rat.le_of_lt p)
  refine ⟨(pw b e).den, (pw b e).den_pos, rfl, (pw b e).num.toNat, by omega, ?_⟩
  rw [← num_is, ← Rat.intCast_natCast]
  congr 1
  omega
theorem pow_mono {b : Nat} (hb : 1 ≤ b) {m n : Nat} (h : m ≤ n) : b ^ m ≤ b ^ n := Nat.pow_le_pow_right hb h
theorem pw_num {b : Nat} (hb : 0 < b) (e : Int) : (pw b e).num.natAbs ≤ b ^ e.natAbs ∧ (pw b e).den ≤ b ^ e.natAbs := by
  have p := Nat.pow_pos (n := e.natAbs) hb
  by_cases h : 0 ≤ e
  · have := pw_nn (b := b) h
    rw [this.1, this.2, Int.natAbs_natCast]
    omega
  · have := pw_ng (b := b) hb h
    rw [this.1]
    have := this.2
    omega
theorem sh_le {f : Fm} (hf : FmOk f) {n : Nat} (h : n ≤ f.k.natAbs + max f.lo.natAbs f.hi.natAbs) : f.b ^ n ≤ 10 ^ 140 := Nat.le_trans (pow_mono (by have := hf.b0; omega) h) hf.sh
end G72
end
section
set_option Elab.async false
set_option linter.all false
set_option maxRecDepth 100000
set_option maxHeartbeats 4000000
namespace G72
open PySem PySem.Spec PyProof.Rows L2 Mi Ra

/-! ### gaps, rounding -/
theorem b_pos {f : Fm} (hf : FmOk f) : 0 < f.b := by have := hf.b0; omega
theorem ex_big {f : Fm} {x : Rat} (hf : FmOk f) (hx : Ok x) : -400 ≤ exO f x ∧ exO f x ≤ 1000 := by
  have h := exO_is hf hx
  have l0 := hf.l0
  have l1 := hf.l1
  have k0 := hf.k0
  refine ⟨by have := h.1; omega, ?_⟩
  rcases h.2.2 with q | q
  · omega
  · by_cases z : exO f x ≤ 1000
    · exact z
    · have := pw_big hf.b0 (e := f.k + (exO f x - 1)) (by omega) hx.abs
      grind
theorem pw_ok {f : Fm} (hf : FmOk f) {e : Int} (h1 : f.lo ≤ e) (h2 : pw f.b e < ((10 ^ 300 : Nat) : Rat)) : Ok (pw f.b e) ∧ (pw f.b e).den ≤ f.b ^ f.lo.natAbs := by
  have hb := b_pos hf
  by_cases h : 0 ≤ e
  · have p := pw_nn (b := f.b) h
    have e1 : pw f.b e = ((f.b ^ e.natAbs : Nat) : Rat) := by unfold pw; rw [if_pos h]
    rw [e1, Rat.natCast_lt_natCast] at h2
    have := Nat.pow_pos (n := f.lo.natAbs) hb
    refine ⟨⟨by rw [p.1, Int.natAbs_natCast]; exact h2, by rw [p.2]; decide +kernel⟩, by rw [p.2]; omega⟩
  · have p := pw_ng hb h
    have l : f.b ^ e.natAbs ≤ f.b ^ f.lo.natAbs := pow_mono hb (by omega)
    have l2 : f.b ^ f.lo.natAbs ≤ 10 ^ 140 := sh_le hf (by omega)
    have l3 : (10 : Nat) ^ 140 < 10 ^ 300 := by decide +kernel
    have := p.2
    refine ⟨⟨by rw [p.1]; decide +kernel, by omega⟩, by omega⟩
theorem gap_ok {f : Fm} {x : Rat} (hf : FmOk f) (hx : Ok x) : Ok (gapR f x) ∧ (gapR f x).den ≤ f.b ^ f.lo.natAbs := by
  have h := exO_is hf hx
  have hb := b_pos hf
  have k0 := hf.k0
  refine pw_ok hf h.1 ?_
  rcases h.2.2 with q | q
  · rw [q]
    have a := pw_mono (b := f.b) hb (show f.lo ≤ ((f.lo.natAbs : Nat) : Int) by omega)
    have e : pw f.b ((f.lo.natAbs : Nat) : Int) = ((f.b ^ f.lo.natAbs : Nat) : Rat) := by unfold pw; rw [if_pos (by omega)]; rfl
    have l2 : f.b ^ f.lo.natAbs ≤ 10 ^ 140 := sh_le hf (by omega)
    have l3 : ((f.b ^ f.lo.natAbs : Nat) : Rat) < ((10 ^ 300 : Nat) : Rat) := Rat.natCast_lt_natCast.mpr (Nat.lt_of_le_of_lt l2 (by decide +kernel))
    rw [e] at a
    grind
  · have a := pw_mono (b := f.b) hb (show exO f x ≤ f.k + (exO f x - 1) by omega)
    have := hx.abs.lt
    grind
theorem q_nat (n : Nat) : PV.tup [.int (n : Int), .int 1] = eQ (n : Rat) := by unfold eQ; rw [Rat.num_natCast, Rat.den_natCast]; rfl
theorem q_int (n : Int) : PV.tup [.int n, .int 1] = eQ (n : Rat) := by unfold eQ; rw [Rat.num_intCast, Rat.den_intCast]; rfl
theorem pw_bd {f : Fm} (hf : FmOk f) {e : Int} (h : e.natAbs ≤ f.k.natAbs + max f.lo.natAbs f.hi.natAbs) : Bd (10 ^ 140) (pw f.b e) := by
  have b := pw_num (b_pos hf) e
  have l := sh_le hf h
  exact ⟨Nat.le_trans b.1 l, Nat.le_trans b.2 l⟩
theorem nat_bd {n k : Nat} (h : n ≤ k) (hk : 1 ≤ k) : Bd k (n : Rat) := ⟨by rw [Rat.num_natCast, Int.natAbs_natCast]; exact h, by rw [Rat.den_natCast]; exact hk⟩
theorem most_bd {f : Fm} (hf : FmOk f) : Bd (10 ^ 140 * 10 ^ 140) (mostR f) := by
  have l := sh_le hf (n := f.k.toNat) (by omega)
  exact Bd.mul (nat_bd (by omega) (by decide +kernel)) (pw_bd hf (by omega))
theorem most_ok {f : Fm} (hf : FmOk f) : Ok (mostR f) := (most_bd hf).ok (by decide +kernel)
end G72
end
section
set_option Elab.async false
set_option linter.all false
set_option maxRecDepth 100000
set_option maxHeartbeats 4000000
namespace G72
open PySem PySem.Spec PyProof.Rows L2 Mi Ra
/-! ### rounding -/
theorem floor_is {a b : Int} (hb : 0 < b) : (Rat.divInt a b).floor = a.fdiv b := by
  have p : (0 : Rat) < (b : Rat) := by
    have := (Rat.intCast_lt_intCast (a := 0) (b := b)).mpr hb
    exact this
  have e : (Rat.divInt a b) * (b : Rat) = (a : Rat) := by rw [div_eq]; grind
  have f := Int.mul_fdiv_add_fmod a b
  have m0 := Int.fmod_nonneg_of_pos a hb
  have m1 := Int.fmod_lt_of_pos a hb
  have c1 : ((a.fdiv b : Int) : Rat) * (b : Rat) ≤ (a : Rat) := by
    rw [← Rat.intCast_mul, int_le, Int.mul_comm]
    omega
  have c2 : (a : Rat) < ((a.fdiv b + 1 : Int) : Rat) * (b : Rat) := by
    rw [← Rat.intCast_mul, Rat.intCast_lt_intCast, Int.mul_comm, Int.mul_add]
    omega
  rw [← e] at c1 c2
  refine Int.le_antisymm ?_ ?_
  · have := Rat.floor_lt_iff.mpr ((Rat.mul_lt_mul_right p).mp c2)
    omega
  · exact Rat.le_floor_iff.mpr (Rat.le_of_mul_le_mul_right c1 p)
theorem near_cmp {a b : Int} (hb : 0 < b) : (2 * (a - (a.fdiv b) * b) = b ↔ 2 * (Rat.divInt a b - ((Rat.divInt a b).floor : Rat)) = 1) ∧ (2 * (a - (a.fdiv b) * b) < b ↔ 2 * (Rat.divInt a b - ((Rat.divInt a b).floor : Rat)) < 1) := by
  rw [floor_is hb]
  have p : (0 : Rat) < (b : Rat) := by
    have := (Rat.intCast_lt_intCast (a := 0) (b := b)).mpr hb
    exact this
  have e : (a : Rat) = (Rat.divInt a b) * (b : Rat) := by rw [div_eq]; grind
  have e2 : ((2 * (a - (a.fdiv b) * b) : Int) : Rat) = 2 * (Rat.divInt a b - ((a.fdiv b : Int) : Rat)) * (b : Rat) := by
    rw [Rat.intCast_mul, Rat.intCast_sub, Rat.intCast_mul, e]
    have : ((2 : Int) : Rat) = 2 := rfl
    rw [this]
    grind
  have c1 : (b : Rat) = 1 * (b : Rat) := (Rat.one_mul _).symm
  constructor
  · rw [← Rat.intCast_inj, e2]
    constructor
    · intro h
      have n : (b : Rat) ≠ 0 := by grind
      generalize 2 * (Rat.divInt a b - ((a.fdiv b : Int) : Rat)) = t at h
      grind
    · intro h; rw [h]; grind
  · rw [← Rat.intCast_lt_intCast, e2]
    conv => lhs; rhs; rw [c1]
    exact Rat.mul_lt_mul_right p
def eY : Wy → PV
  | .near => .str "near"
  | .down => .str "down"
  | .up => .str "up"
  | .zero => .str "zero"
theorem ix_t0 {a b : Int} {S : Sto} : fIx (.tup [.int a, .int b]) (.int 0) S = .ok (.int a) S := rfl
theorem ix_t1 {a b : Int} {S : Sto} : fIx (.tup [.int a, .int b]) (.int 1) S = .ok (.int b) S := rfl
theorem fdiv_abs2 {a b : Int} (hb : 0 < b) : (a.fdiv b).natAbs ≤ a.natAbs + 1 := by
  have f := Int.mul_fdiv_add_fmod a b
  have m0 := Int.fmod_nonneg_of_pos a hb
  have m1 := Int.fmod_lt_of_pos a hb
  generalize a.fdiv b = q at *
  generalize a.fmod b = r at *
  by_cases h : 0 ≤ q
  · have := Int.mul_le_mul_of_nonneg_right (show 1 ≤ b by omega) h
    omega
  · have := Int.mul_le_mul_of_nonpos_right (show 1 ≤ b by omega) (show q + 1 ≤ 0 by omega)
    rw [Int.mul_add] at this
    omega
theorem ceil_is {a b : Int} (hb : 0 < b) : (-(Rat.divInt a b)).floor = (-a).fdiv b := by
  rw [← floor_is hb]
  congr 1
  rw [div_eq, div_eq, Rat.intCast_neg]
  grind
theorem div_sgn {a b : Int} (hb : 0 < b) : 0 ≤ Rat.divInt a b ↔ 0 ≤ a := by
  have p : (0 : Rat) < (b : Rat) := by
    have := (Rat.intCast_lt_intCast (a := 0) (b := b)).mpr hb
    exact this
  have e : (Rat.divInt a b) * (b : Rat) = (a : Rat) := by rw [div_eq]; grind
  have z : (0 : Int) ≤ a ↔ (0 : Rat) ≤ (a : Rat) := (int_le (a := 0) (b := a)).symm
  rw [z, ← e]
  constructor
  · intro h; exact Rat.mul_nonneg h (Rat.le_of_lt p)
  · intro h
    by_cases q : 0 ≤ Rat.divInt a b
    · exact q
    · have := Rat.mul_pos (show 0 < -(Rat.divInt a b) by grind) p
      grind
theorem sm_dim {f : Fm} {x : Rat} (hf : FmOk f) (hx : Ok x) : (x.num * ((gapR f x).den : Int)).natAbs ≤ 2 ^ 3000 ∧ ((x.den : Int) * (gapR f x).num).natAbs ≤ 2 ^ 3000 := by
  have g := (gap_ok hf hx).1
  exact ⟨Nat.le_trans (mul_abs hx.bd.n g.bd.dn) (by decide +kernel), Nat.le_trans (mul_abs hx.bd.dn g.bd.n) (by decide +kernel)⟩
/-- how many gaps there are at most in a number -/
theorem rnd_most {f : Fm} {w : Wy} {x : Rat} (hf : FmOk f) (hx : Ok x) : (rnd w (x / gapR f x)).natAbs ≤ 10 ^ 140 := by
  have h := exO_is hf hx
  have l := h.2.1
  rw [pw_k hf] at l
  have b := rnd_abs (w := w) (gap_pos hf x) (Rat.le_of_lt l)
  have l := sh_le hf (n := f.k.toNat) (by have := hf.k0; omega)
  omega
theorem int_bd {n : Int} {k : Nat} (h : n.natAbs ≤ k) (hk : 1 ≤ k) : Bd k (n : Rat) := ⟨by rw [Rat.num_intCast]; exact h, by rw [Rat.den_intCast]; exact hk⟩
theorem cmp_most {n : Nat} {g M : Rat} : (M.num * (g.den : Int) < (n : Int) * g.num * (M.den : Int)) ↔ ¬ ((n : Rat) * g ≤ M) := by
  have d1 : (0 : Rat) < (g.den : Rat) := by have := Rat.natCast_lt_natCast.mpr g.den_pos; exact this
  have d2 : (0 : Rat) < (M.den : Rat) := by have := Rat.natCast_lt_natCast.mpr M.den_pos; exact this
  have p : (0 : Rat) < (g.den : Rat) * (M.den : Rat) := Rat.mul_pos d1 d2
  have e1 : ((M.num * (g.den : Int) : Int) : Rat) = M * ((g.den : Rat) * (M.den : Rat)) := by
    rw [Rat.intCast_mul, num_is, Rat.intCast_natCast]; grind
  have e2 : (((n : Int) * g.num * (M.den : Int) : Int) : Rat) = ((n : Rat) * g) * ((g.den : Rat) * (M.den : Rat)) := by
    rw [Rat.intCast_mul, Rat.intCast_mul, num_is, Rat.intCast_natCast, Rat.intCast_natCast]; grind
  rw [← Rat.intCast_lt_intCast, e1, e2, Rat.mul_lt_mul_right p]
  grind
theorem abs_cast (n : Int) : ((n : Rat)).abs = ((n.natAbs : Nat) : Rat) := by
  rw [abs_is', ← Rat.intCast_natCast]
  have z : ((n : Rat) < 0) ↔ n < 0 := Rat.intCast_lt_intCast (a := n) (b := 0)
  by_cases h : n < 0
  · rw [if_pos (z.mpr h), ← Rat.intCast_neg]; congr 1; omega
  · rw [if_neg (fun q => h (z.mp q))]; congr 1; omega
theorem den_dvd {a b : Int} (hb : 0 < b) : ((Rat.divInt a b).den : Int) ∣ b := by
  rw [den_div hb]
  exact ⟨(Int.gcd a b : Nat), (Int.fdiv_mul_cancel (Int.gcd_dvd_right a b)).symm⟩
theorem mul_den (n : Int) (g : Rat) : ((n : Rat) * g).den ∣ g.den := by
  have e := mul_is (n : Rat) g
  rw [Rat.den_intCast, Int.natCast_one, Int.one_mul] at e
  rw [← e]
  exact Int.natCast_dvd_natCast.mp (den_dvd (den_p g))
/-- numbers of the format are short -/
theorem num_bd {f : Fm} {r : Rat} {B : Nat} (hf : FmOk f) (hB : f.b ^ (f.k.natAbs + max f.lo.natAbs f.hi.natAbs) ≤ B) (h : IsNum f r) (ok : Ok r) : r.num.natAbs ≤ B * B ∧ r.den ≤ B := by
  have hb := b_pos hf
  have gd := (gap_ok hf ok).2
  obtain ⟨l, m, e⟩ := h
  have dd : r.den ∣ (gapR f r).den := by
    have := mul_den m (gapR f r)
    rw [← e] at this
    exact this
  have d1 : r.den ≤ (gapR f r).den := Nat.le_of_dvd (gapR f r).den_pos dd
  have d2 : f.b ^ f.lo.natAbs ≤ B := Nat.le_trans (pow_mono hb (by omega)) hB
  have dB : r.den ≤ B := by omega
  refine ⟨?_, dB⟩
  have ml : mostR f ≤ (B : Rat) := by
    have a := Rat.le_of_lt (most_lt hf)
    have b := pw_mono (b := f.b) hb (show f.k + f.hi ≤ ((f.k.natAbs + max f.lo.natAbs f.hi.natAbs : Nat) : Int) by omega)
    have c : pw f.b ((f.k.natAbs + max f.lo.natAbs f.hi.natAbs : Nat) : Int) = ((f.b ^ (f.k.natAbs + max f.lo.natAbs f.hi.natAbs) : Nat) : Rat) := by unfold pw; rw [if_pos (by omega)]; rfl
    rw [c] at b
    have d := nat_le.mpr hB
    exact Rat.le_trans a (Rat.le_trans b d)
  have n1 : ((r.num.natAbs : Nat) : Rat) ≤ (B : Rat) * (B : Rat) := by
    rw [← abs_cast, num_is, abs_mul]
    have e2 : ((r.den : Nat) : Rat).abs = (r.den : Rat) := by
      rw [abs_is', if_neg]
      have := nat_le.mpr (Nat.zero_le r.den)
      have z : ((0 : Nat) : Rat) = 0 := rfl
      grind
    rw [e2]
    exact mul_mono (Rat.le_trans l ml) (nat_le.mpr dB) (abs_nn' _) (nat_le.mpr (Nat.zero_le _))
  rw [← Rat.natCast_mul, nat_le] at n1
  exact n1
theorem prod_ok {f : Fm} {n : Int} {x : Rat} (hf : FmOk f) (hx : Ok x) (hn : n.natAbs ≤ 10 ^ 140) (h : ((n : Rat) * gapR f x).abs ≤ mostR f) : Ok ((n : Rat) * gapR f x) := by
  have gk := gap_ok hf hx
  have hb := b_pos hf
  have d2 : f.b ^ f.lo.natAbs ≤ 10 ^ 140 := sh_le hf (by omega)
  have dd : ((n : Rat) * gapR f x).den ≤ 10 ^ 140 := by
    have := Nat.le_of_dvd (gapR f x).den_pos (mul_den n (gapR f x))
    omega
  have ml : mostR f ≤ ((10 ^ 140 : Nat) : Rat) := by
    have a := Rat.le_of_lt (most_lt hf)
    have b := pw_mono (b := f.b) hb (show f.k + f.hi ≤ ((f.k.natAbs + max f.lo.natAbs f.hi.natAbs : Nat) : Int) by omega)
    have c : pw f.b ((f.k.natAbs + max f.lo.natAbs f.hi.natAbs : Nat) : Int) = ((f.b ^ (f.k.natAbs + max f.lo.natAbs f.hi.natAbs) : Nat) : Rat) := by unfold pw; rw [if_pos (by omega)]; rfl
    rw [c] at b
    have d := nat_le.mpr hf.sh
    exact Rat.le_trans a (Rat.le_trans b d)
  generalize (n : Rat) * gapR f x = r at *
  have n1 : ((r.num.natAbs : Nat) : Rat) ≤ ((10 ^ 140 : Nat) : Rat) * ((10 ^ 140 : Nat) : Rat) := by
    rw [← abs_cast, num_is, abs_mul]
    have e2 : ((r.den : Nat) : Rat).abs = (r.den : Rat) := by
      rw [abs_is', if_neg]
      have := nat_le.mpr (Nat.zero_le r.den)
      have z : ((0 : Nat) : Rat) = 0 := rfl
      grind
    rw [e2]
    exact mul_mono (Rat.le_trans h ml) (nat_le.mpr dd) (abs_nn' _) (nat_le.mpr (Nat.zero_le _))
  rw [← Rat.natCast_mul, nat_le] at n1
  exact ⟨Nat.lt_of_le_of_lt n1 (by decide +kernel), Nat.lt_of_le_of_lt dd (by decide +kernel)⟩
def eO : Option Rat → PV
  | none => .non
  | some q => eQ q
end G72
end
section
set_option Elab.async false
set_option linter.all false
set_option maxRecDepth 100000
set_option maxHeartbeats 4000000
namespace G72
open PySem PySem.Spec PyProof.Rows L2 Mi Ra
/-! ### formats, ways, words -/
theorem len_eF {f : Fm} {S : Sto} : fLen [eF f] S = .ok (.int 4) S := rfl
theorem isi_eF {f : Fm} {S : Sto} : fIsi [eF f, .ty "tuple"] S = .ok (.bl true) S := rfl
theorem e_within {i l h : Int} {S : Sto} (h1 : l ≤ i) (h2 : i ≤ h) : F_is_within [.int i, .int l, .int h] S = .ok (.bl true) S := by
  have e : F_is_integer [.int i] S = .ok (.bl true) S := rfl
  simp [F_is_within, d_is_within, runF, startP, endOf, dRet, dRetN, dIf, dIfS, dB, dBin, dUn, dV, dC, sE, asB, dSeq, dSet, dPar, dPar3, dAsg, dExpr, dAnd, dOr, dNot, bAnd, bOr, bNot, dTru, dCB, dCons, dNil, dTup, dLst, dChain, dPass, fCmpI, fIsN, gTp, gsCons, gsNil, gNm, mkTup, dSl, dPart, dNoPart, lim, iLt, iLe, iGt, iGe, e, h1, h2]
theorem digs_sm (b : Nat) : (digs b).natAbs ≤ 13 := by
  unfold digs
  split
  · decide
  · split
    · decide
    · split <;> decide
theorem fmod_dvd {a b : Int} (hb : 0 < b) (m : Int) (h : a = m * b) : a.fmod b = 0 := by rw [h, Int.fmod_eq_emod_of_nonneg _ (by omega)]; exact Int.mul_emod_left m b
end G72
end
section
set_option Elab.async false
set_option linter.all false
set_option maxRecDepth 100000
set_option maxHeartbeats 4000000
namespace G72
open PySem PySem.Spec PyProof.Rows L2 Mi Ra
/-! ### holds -/
def eH (h : Hd) : PV := .tup [eQ h.lo, eQ h.hi, eQ h.off]
structure HOk (h : Hd) : Prop where
  lo : Ok h.lo
  hi : Ok h.hi
  off : Ok h.off
def eW : Wrd → PV
  | .neg => .str "neg"
  | .size => .str "size"
  | .add => .str "add"
  | .sub => .str "sub"
  | .mul => .str "mul"
  | .div => .str "div"
  | .least => .str "least"
  | .most => .str "most"
theorem ix_h0 (h : Hd) (S : Sto) : fIx (eH h) (.int 0) S = .ok (eQ h.lo) S := rfl
theorem ix_h1 (h : Hd) (S : Sto) : fIx (eH h) (.int 1) S = .ok (eQ h.hi) S := rfl
theorem ix_h2 (h : Hd) (S : Sto) : fIx (eH h) (.int 2) S = .ok (eQ h.off) S := rfl
theorem isi_h (h : Hd) (S : Sto) : fIsi [eH h, .ty "tuple"] S = .ok (.bl true) S := rfl
theorem len_h (h : Hd) (S : Sto) : fLen [eH h] S = .ok (.int 3) S := rfl
theorem isi_q (q : Rat) (S : Sto) : fIsi [eQ q, .ty "tuple"] S = .ok (.bl true) S := rfl
theorem e_is_hold {h : Hd} {S : Sto} (ok : HOk h) (is : h.Is) : F_is_hold [eH h] S = .ok (.bl true) S := by
  have i : iSeq (dV 0) [some (eH h), none] S = .ok ([h.lo, h.hi, h.off].map eQ) S := rfl
  have l : dLc false (iSeq (dV 0)) (cNm 1) (dYes) (dCB F_is_fraction (dCons (dV 1) (dNil))) [1] [some (eH h), none] S = .ok (.nl [.bl true, .bl true, .bl true]) S := by
    have q := dLc_map (α := Rat) (di := iSeq (dV 0)) (f := cNm 1) (de := dCB F_is_fraction (dCons (dV 1) (dNil))) (ρ := [some (eH h), none]) (vs := [1]) (S := S) (xs := [h.lo, h.hi, h.off]) eQ (fun _ => .bl true) Ok i ?_ ?_
    · exact q (by show 3 ≤ lim; decide +kernel)
    · intro x hx
      refine ⟨[some (eH h), some (eQ x)], rfl, fun S => ?_⟩
      have := fun S => e_fraction (S := S) hx
      simp [runF, startP, endOf, dRet, dRetN, dIf, dIfS, dB, dBin, dUn, dV, dC, sE, asB, dSeq, dSet, dPar, dPar3, dAsg, dExpr, dAnd, dOr, dNot, bAnd, bOr, bNot, dTru, dCB, dCons, dNil, dTup, dLst, dChain, dPass, fCmpI, fIsN, gTp, gsCons, gsNil, gNm, mkTup, dSl, dPart, dNoPart, lim, iLt, iLe, iGt, iGe, this]
    · intro x hx
      simp at hx
      rcases hx with rfl | rfl | rfl
      · exact ok.lo
      · exact ok.hi
      · exact ok.off
  have al : fAll [.nl [.bl true, .bl true, .bl true]] S = .ok (.bl true) S := rfl
  have le := fun S => e_raw_at_most (S := S) ok.lo ok.hi
  have le2 := is.le
  have nn := num_nn.mpr is.nn
  simp [F_is_hold, d_is_hold, runF, startP, endOf, dRet, dRetN, dIf, dIfS, dB, dBin, dUn, dV, dC, sE, asB, dSeq, dSet, dPar, dPar3, dAsg, dExpr, dAnd, dOr, dNot, bAnd, bOr, bNot, dTru, dCB, dCons, dNil, dTup, dLst, dChain, dPass, fCmpI, fIsN, gTp, gsCons, gsNil, gNm, mkTup, dSl, dPart, dNoPart, lim, iLt, iLe, iGt, iGe, isi_h, len_h, w_eq, l, al, truP, ix_h0, ix_h1, ix_h2, ix_q0, le, le2, nn]
theorem e_chk_hold {h : Hd} {S : Sto} (ok : HOk h) (is : h.Is) : F_check_hold [eH h] S = .ok .non S := by
  simp [F_check_hold, d_check_hold, runF, startP, endOf, dRet, dRetN, dIf, dIfS, dB, dBin, dUn, dV, dC, sE, asB, dSeq, dSet, dPar, dPar3, dAsg, dExpr, dAnd, dOr, dNot, bAnd, bOr, bNot, dTru, dCB, dCons, dNil, dTup, dLst, dChain, dPass, fCmpI, fIsN, gTp, gsCons, gsNil, gNm, mkTup, dSl, dPart, dNoPart, lim, iLt, iLe, iGt, iGe, e_is_hold ok is, truP]
theorem e_raw_covers {a b : Hd} {S : Sto} (oa : HOk a) (ob : HOk b) (c : Cov a b) : F_raw_covers [eH a, eH b] S = .ok (.bl true) S := by
  have l1 := fun S => e_raw_at_most (S := S) oa.lo ob.lo
  have l2 := fun S => e_raw_at_most (S := S) ob.hi oa.hi
  have l3 := fun S => e_raw_at_most (S := S) ob.off oa.off
  obtain ⟨c1, c2, c3⟩ := c
  simp [F_raw_covers, d_raw_covers, runF, startP, endOf, dRet, dRetN, dIf, dIfS, dB, dBin, dUn, dV, dC, sE, asB, dSeq, dSet, dPar, dPar3, dAsg, dExpr, dAnd, dOr, dNot, bAnd, bOr, bNot, dTru, dCB, dCons, dNil, dTup, dLst, dChain, dPass, fCmpI, fIsN, gTp, gsCons, gsNil, gNm, mkTup, dSl, dPart, dNoPart, lim, iLt, iLe, iGt, iGe, ix_h0, ix_h1, ix_h2, l1, l2, l3, c1, c2, c3, truP]
theorem e_covers {a b : Hd} {S : Sto} (oa : HOk a) (ob : HOk b) (ia : a.Is) (ib : b.Is) (c : Cov a b) : F_covers [eH a, eH b] S = .ok (.bl true) S := by
  simp [F_covers, d_covers, runF, startP, endOf, dRet, dRetN, dIf, dIfS, dB, dBin, dUn, dV, dC, sE, asB, dSeq, dSet, dPar, dPar3, dAsg, dExpr, dAnd, dOr, dNot, bAnd, bOr, bNot, dTru, dCB, dCons, dNil, dTup, dLst, dChain, dPass, fCmpI, fIsN, gTp, gsCons, gsNil, gNm, mkTup, dSl, dPart, dNoPart, lim, iLt, iLe, iGt, iGe, e_chk_hold oa ia, e_chk_hold ob ib, e_raw_covers oa ob c]
def join (a b : Hd) : Hd := ⟨rmin a.lo b.lo, rmax a.hi b.hi, rmax a.off b.off⟩
theorem ok_max {x y : Rat} (hx : Ok x) (hy : Ok y) : Ok (rmax x y) := by unfold rmax; split <;> assumption
theorem ok_min {x y : Rat} (hx : Ok x) (hy : Ok y) : Ok (rmin x y) := by unfold rmin; split <;> assumption
theorem ok_0 : Ok (0 : Rat) := ⟨by decide +kernel, by decide +kernel⟩
theorem ok_mx {x y : Rat} (hx : Ok x) (hy : Ok y) : Ok (mx x y) := ok_max hx.abs hy.abs
theorem ok_ls {x y : Rat} (hx : Ok x) (hy : Ok y) : Ok (ls x y) := by
  unfold ls
  split
  · exact ok_0
  · exact ok_min hx.abs hy.abs
def Wrd.one : Wrd → Bool
  | .neg | .size => true
  | _ => false
def args {α : Type} (w : Wrd) (x y : α) : List α := if Wrd.one w = true then [x] else [x, y]
theorem args_0 (w : Wrd) (x y : PV) (S : Sto) : fIx (.tup (args w x y)) (.int 0) S = .ok x S := by cases w <;> rfl
theorem args_l0 (w : Wrd) (x y : PV) (S : Sto) : fIx (.nl (args w x y)) (.int 0) S = .ok x S := by cases w <;> rfl
end G72
end
section
set_option Elab.async false
set_option linter.all false
set_option maxRecDepth 100000
set_option maxHeartbeats 4000000
namespace G72
open PySem PySem.Spec PyProof.Rows L2 Mi Ra
/-! ### holds by words -/
/-- what the ends need to be short -/
def enOk (w : Wrd) (h g : Hd) : Prop := Ok (w.ex h.lo g.lo) ∧ Ok (w.ex h.lo g.hi) ∧ Ok (w.ex h.hi g.lo) ∧ Ok (w.ex h.hi g.hi)
def spOk : Wrd → Hd → Hd → Prop
  | .mul, h, g => Ok (mx h.lo h.hi * g.off) ∧ Ok (mx g.lo g.hi * h.off) ∧ Ok (mx h.lo h.hi * g.off + mx g.lo g.hi * h.off) ∧ Ok (h.off * g.off) ∧ Ok (mx h.lo h.hi * g.off + mx g.lo g.hi * h.off + h.off * g.off)
  | .div, h, g => Ok (mx h.lo h.hi * g.off) ∧ Ok (mx h.lo h.hi * g.off / ls g.lo g.hi) ∧ Ok (h.off + mx h.lo h.hi * g.off / ls g.lo g.hi) ∧ Ok (ls g.lo g.hi - g.off) ∧ Ok ((h.off + mx h.lo h.hi * g.off / ls g.lo g.hi) / (ls g.lo g.hi - g.off))
  | .add, h, g | .sub, h, g => Ok (h.off + g.off)
  | _, _, _ => True
def hlds (w : Wrd) (h g : Hd) : PV := .tup (args w (eH h) (eH g))
theorem hl_0 (w : Wrd) (h g : Hd) (S : Sto) : fIx (hlds w h g) (.int 0) S = .ok (eH h) S := args_0 w _ _ S
end G72
end
section
set_option Elab.async false
set_option linter.all false
set_option maxRecDepth 100000
set_option maxHeartbeats 4000000
namespace G72
open PySem PySem.Spec PyProof.Rows L2 Mi Ra
/-- all that a hold by a word needs to be short -/
structure HbOk (f : Fm) (y : Wy) (w : Wrd) (h g : Hd) : Prop where
  en : enOk w h g
  es : w = .sub → Ok (h.lo - g.hi) ∧ Ok (h.hi - g.lo)
  sp : spOk w h g
  lo : w.big = true → Ok (eLo w h g)
  hi : w.big = true → Ok (eHi w h g)
  s : w.big = true → Ok (spr w h g)
  m : w.big = true → Ok (mstR w h g)
  o : w.big = true → mstR w h g ≤ mostR f → Ok (offR f y (mstR w h g))
  t : w.big = true → mstR w h g ≤ mostR f → Ok (spr w h g + offR f y (mstR w h g))
def eHO : Option Hd → PV
  | none => .non
  | some h => eH h
end G72
end
section
set_option Elab.async false
set_option linter.all false
set_option maxRecDepth 100000
set_option maxHeartbeats 400000
namespace G72
open PySem PySem.Spec PyProof.Rows L2 Mi Ra
/-! the public ones -/
theorem isi_s (s : Str) (S : Sto) : fIsi [.str s, .ty "str"] S = .ok (.bl true) S := rfl
theorem isi_t (xs : List PV) (S : Sto) : fIsi [.tup xs, .ty "tuple"] S = .ok (.bl true) S := rfl
theorem all_holds {w : Wrd} {h g : Hd} {S : Sto} {a0 a1 a2 : Option PV} (oh : HOk h) (og : HOk g) (ih : h.Is) (ig : g.Is) : dLc false (iSeq (dV 3)) (cNm 4) (dYes) (dCB F_is_hold (dCons (dV 4) (dNil))) [4] [a0, a1, a2, some (hlds w h g), none] S = .ok (.nl (args w (.bl true) (.bl true))) S := by
  have r1 := fun S => e_is_hold (S := S) oh ih
  have r2 := fun S => e_is_hold (S := S) og ig
  have i : iSeq (dV 3) [a0, a1, a2, some (hlds w h g), none] S = .ok (args w (eH h) (eH g)) S := by cases w <;> rfl
  have w1 : wipeP [a0, a1, a2, some (hlds w h g), none] [4] = [a0, a1, a2, some (hlds w h g), none] := rfl
  cases w <;> simp only [args, Wrd.one] at * <;> simp at i ⊢ <;> simp [dLc, lcP, i, w1, cNm, dYes, runF, startP, endOf, dRet, dRetN, dIf, dIfS, dB, dBin, dUn, dV, dC, sE, asB, dSeq, dSet, dPar, dPar3, dAsg, dExpr, dAnd, dOr, dNot, bAnd, bOr, bNot, dTru, dCB, dCons, dNil, dTup, dLst, dChain, dPass, fCmpI, fIsN, gTp, gsCons, gsNil, gNm, mkTup, dSl, dPart, dNoPart, lim, iLt, iLe, iGt, iGe, r1, r2, mkLst]
def nums (w : Wrd) (x z : Rat) : PV := .tup (args w (eQ x) (eQ z))
theorem all_nums {w : Wrd} {x z : Rat} {S : Sto} {a0 : Option PV} (hx : Ok x) (hz : Ok z) : dLc false (iSeq (dV 1)) (cNm 2) (dYes) (dCB F_is_fraction (dCons (dV 2) (dNil))) [2] [a0, some (nums w x z), none] S = .ok (.nl (args w (.bl true) (.bl true))) S := by
  have r1 := fun S => e_fraction (S := S) hx
  have r2 := fun S => e_fraction (S := S) hz
  have i : iSeq (dV 1) [a0, some (nums w x z), none] S = .ok (args w (eQ x) (eQ z)) S := by cases w <;> rfl
  have w1 : wipeP [a0, some (nums w x z), none] [2] = [a0, some (nums w x z), none] := rfl
  cases w <;> simp only [args, Wrd.one] at * <;> simp at i ⊢ <;> simp [dLc, lcP, i, w1, cNm, dYes, runF, startP, endOf, dRet, dRetN, dIf, dIfS, dB, dBin, dUn, dV, dC, sE, asB, dSeq, dSet, dPar, dPar3, dAsg, dExpr, dAnd, dOr, dNot, bAnd, bOr, bNot, dTru, dCB, dCons, dNil, dTup, dLst, dChain, dPass, fCmpI, fIsN, gTp, gsCons, gsNil, gNm, mkTup, dSl, dPart, dNoPart, lim, iLt, iLe, iGt, iGe, r1, r2, mkLst]
end G72
end
section
set_option Elab.async false
set_option linter.all false
set_option maxRecDepth 100000
set_option maxHeartbeats 1000000
namespace G72
open PySem PySem.Spec PyProof.Rows L2 Mi Ra

/-! ### the hand, and what is drawn of it -/
section
variable {S : Sto} {a b c d e x : PV} {ρ : EnP}
abbrev hT (S : Sto) (a b c d e : PV) : Sto := S.set 0 (SO.lst [a, b, c, d, e])
theorem hT_get (h : 0 < S.length) : (hT S a b c d e)[0]? = some (SO.lst [a, b, c, d, e]) := by rw [List.getElem?_set_self h]
theorem hT_set (y : SO) : (hT S a b c d e).set 0 y = S.set 0 y := by unfold hT; rw [List.set_set]
theorem seq_ref {n : Nat} {xs : List PV} {S : Sto} (h : S[n]? = some (SO.lst xs)) : seqOf (.ref n) S = some xs := by
  show (match S[n]? with | some (SO.lst xs) => some xs | _ => none) = _
  rw [h]
theorem ix_ref {n : Nat} {xs : List PV} {S : Sto} {i : Int} {y : PV} (h : S[n]? = some (SO.lst xs)) (e : atI xs i = some y) : fIx (.ref n) (.int i) S = .ok y S := by
  show (match seqOf (.ref n) S with | some xs => (match atI xs i with | some v => Res.ok v S | none => .bad) | none => .bad) = _
  rw [seq_ref h]
  simp only [e]
theorem ix0 (h : 0 < S.length) : fIx (.ref 0) (.int 0) (hT S a b c d e) = .ok a (hT S a b c d e) := ix_ref (hT_get h) rfl
theorem ix1 (h : 0 < S.length) : fIx (.ref 0) (.int 1) (hT S a b c d e) = .ok b (hT S a b c d e) := ix_ref (hT_get h) rfl
theorem ix2 (h : 0 < S.length) : fIx (.ref 0) (.int 2) (hT S a b c d e) = .ok c (hT S a b c d e) := ix_ref (hT_get h) rfl
theorem ix3 (h : 0 < S.length) : fIx (.ref 0) (.int 3) (hT S a b c d e) = .ok d (hT S a b c d e) := ix_ref (hT_get h) rfl
theorem ix4 (h : 0 < S.length) : fIx (.ref 0) (.int 4) (hT S a b c d e) = .ok e (hT S a b c d e) := ix_ref (hT_get h) rfl
theorem set_ref {n : Nat} {xs : List PV} {S : Sto} {i : Int} {j : Nat} (h : S[n]? = some (SO.lst xs)) (e : ixN xs.length i = some j) : setIx x ρ (.ref n) (.int i) S = .ok ρ (S.set n (SO.lst (xs.set j x))) := by
  show (match S[n]? with | some (SO.lst xs) => (match ixN xs.length i with | some j => Res.ok ρ (S.set n (SO.lst (xs.set j x))) | none => .bad) | _ => .bad) = _
  rw [h]
  simp only [e]
theorem st1 (h : 0 < S.length) : setIx x ρ (.ref 0) (.int 1) (hT S a b c d e) = .ok ρ (hT S a x c d e) := by rw [set_ref (hT_get h) (j := 1) rfl, hT_set]; rfl
theorem st2 (h : 0 < S.length) : setIx x ρ (.ref 0) (.int 2) (hT S a b c d e) = .ok ρ (hT S a b x d e) := by rw [set_ref (hT_get h) (j := 2) rfl, hT_set]; rfl
theorem st3 (h : 0 < S.length) : setIx x ρ (.ref 0) (.int 3) (hT S a b c d e) = .ok ρ (hT S a b c x e) := by rw [set_ref (hT_get h) (j := 3) rfl, hT_set]; rfl
theorem st4 (h : 0 < S.length) : setIx x ρ (.ref 0) (.int 4) (hT S a b c d e) = .ok ρ (hT S a b c d x) := by rw [set_ref (hT_get h) (j := 4) rfl, hT_set]; rfl
end
def cellsP (cs : List Int) : PV := .nl (cs.map .int)
theorem len_cells (cs : List Int) (S : Sto) : fLen [cellsP cs] S = .ok (.int cs.length) S := by
  show Res.ok (PV.int ((cs.map PV.int).length : Nat)) S = _
  rw [List.length_map]
theorem ix_cells {cs : List Int} {i : Int} {S : Sto} (h0 : 0 ≤ i) (h1 : i < cs.length) : ∃ y ∈ cs, fIx (cellsP cs) (.int i) S = .ok (.int y) S := by
  have hl : i.toNat < cs.length := by omega
  refine ⟨cs[i.toNat], List.getElem_mem hl, ?_⟩
  have e : atI (cs.map PV.int) i = some (.int cs[i.toNat]) := by
    unfold atI ixN
    rw [List.length_map, if_pos h0, if_pos h1]
    simp [hl]
  show (match atI (cs.map PV.int) i with | some v => Res.ok v S | none => .bad) = _
  rw [e]
theorem log2_mono {a b : Nat} (h : a ≤ b) : a.log2 ≤ b.log2 := by
  by_cases z : a = 0
  · rw [z]; exact Nat.zero_le _
  · rw [Nat.le_log2 (by omega)]
    exact Nat.le_trans (Nat.log2_self_le z) h
theorem log2_sm {a : Nat} (h : a ≤ 2 ^ 4000) : a.log2 ≤ 4000 := by
  by_cases z : a = 0
  · rw [z]; decide
  · have := (Nat.log2_lt z (k := 4001)).mpr (Nat.lt_of_le_of_lt h (by decide +kernel))
    omega
theorem mul_bg {i j : Int} {S : Sto} (h1 : i.natAbs.log2 ≤ 2000000) (h2 : j.natAbs ≤ 2 ^ 4000) : fMul false (.int i) (.int j) S = .ok (.int (i * j)) S := by
  have := log2_sm h2
  show (if i.natAbs.log2 + j.natAbs.log2 < 100000000 then Res.ok (PV.int (i * j)) S else .bad) = _
  rw [if_pos (by omega)]
structure HB (cs : List Int) (i v s c : Int) (b : Int) : Prop where
  cs : ∀ x ∈ cs, 0 ≤ x ∧ x.natAbs.log2 ≤ 2000000
  i : 0 ≤ i
  v0 : 0 ≤ v
  v1 : v.natAbs.log2 ≤ 2000000
  s0 : 0 ≤ s
  s1 : s < 2147483648
  c0 : 0 ≤ c
  c1 : c ≤ b
theorem pow_sm {i j : Int} {S : Sto} (h : 0 ≤ j ∧ j ≤ 1000000 ∧ i.natAbs < 2 ^ 64) : fPow (.int i) (.int j) S = .ok (.int (i ^ j.toNat)) S := by
  show (if 0 ≤ j ∧ j ≤ 1000000 ∧ i.natAbs < 2 ^ 64 then Res.ok (PV.int (i ^ j.toNat)) S else .bad) = _
  rw [if_pos h]
theorem p18 (S : Sto) : fPow (.int 10) (.int 18) S = .ok (.int 1000000000000000000) S := pow_sm (by decide)
theorem p36 (S : Sto) : fPow (.int 10) (.int 36) S = .ok (.int 1000000000000000000000000000000000000) S := pow_sm (by decide)
theorem big40 {i : Int} (h0 : 0 ≤ i) (h1 : i < 10 ^ 40) : i.natAbs ≤ 2 ^ 4000 := by
  have : (10 : Int) ^ 40 ≤ 2 ^ 4000 := by decide +kernel
  omega
def dA : EnP → Sto → SR := (dIfS (bAnd (dB (dBin (fEq false) (dBin fIx (dV 0) (dC (.int 2))) (dC (.int 0)))) (dB (dBin (fCmpI iLt) (dBin fIx (dV 0) (dC (.int 1))) (dCB fLen (dCons (dBin fIx (dV 0) (dC (.int 0))) (dNil)))))) (dSeq (dSet 2 (dBin fIx (dBin fIx (dV 0) (dC (.int 0))) (dBin fIx (dV 0) (dC (.int 1))))) (dSeq (dAsg (dBin (fAdd false) (dBin fIx (dV 0) (dC (.int 1))) (dC (.int 1))) (gIx (dV 0) (dC (.int 1)))) (dSeq (dAsg (dBin fMod (dCB fInt (dCons (dBin (fAdd false) (dBin (fAdd false) (dBin (fMul false) (dBin fIx (dV 0) (dC (.int 3))) (dC (.int 69621))) (dBin (fMul false) (dV 2) (dC (.int 40692)))) (dC (.int 37))) (dNil))) (dC (.int 2147483629))) (gIx (dV 0) (dC (.int 3)))) (dIfS (dB (dBin (fCmpI iGe) (dV 2) (dBin fPow (dC (.int 10)) (dC (.int 18))))) (dAsg (dV 2) (gIx (dV 0) (dC (.int 2)))) (dPass))))) (dPass))
def dBs : EnP → Sto → SR := (dIfS (dB (dBin (fCmpI iGt) (dBin fIx (dV 0) (dC (.int 2))) (dC (.int 0)))) (dSeq (dSet 3 (dBin fMod (dCB fInt (dCons (dBin fIx (dV 0) (dC (.int 2))) (dNil))) (dV 1))) (dSeq (dAsg (dBin fDiv (dBin fIx (dV 0) (dC (.int 2))) (dV 1)) (gIx (dV 0) (dC (.int 2)))) (dRet (dV 3)))) (dPass))
def dCs : EnP → Sto → SR := (dSeq (dAsg (dBin (fAdd false) (dBin fIx (dV 0) (dC (.int 4))) (dC (.int 1))) (gIx (dV 0) (dC (.int 4)))) (dSeq (dSet 4 (dBin fMod (dCB fInt (dCons (dBin (fMul false) (dCB fInt (dCons (dBin (fAdd false) (dBin fIx (dV 0) (dC (.int 3))) (dBin (fMul false) (dC (.int 7919)) (dBin fIx (dV 0) (dC (.int 4))))) (dNil))) (dC (.int 48271))) (dNil))) (dC (.int 2147483647)))) (dSeq (dSet 4 (dBin fMod (dCB fInt (dCons (dBin (fMul false) (dV 4) (dBin (fAdd false) (dBin fDiv (dV 4) (dC (.int 1009))) (dC (.int 69621)))) (dNil))) (dC (.int 2147483647)))) (dSeq (dSet 4 (dBin fMod (dCB fInt (dCons (dBin (fMul false) (dV 4) (dBin (fAdd false) (dBin fDiv (dV 4) (dC (.int 2003))) (dC (.int 40014)))) (dNil))) (dC (.int 2147483563)))) (dRet (dBin fMod (dCB fInt (dCons (dBin fDiv (dV 4) (dC (.int 16))) (dNil))) (dV 1)))))))
theorem d_draw : d_law_draw_L = dSeq dA (dSeq dBs dCs) := rfl
theorem fmod_pos {i m : Int} (hm : 0 < m) : 0 ≤ i.fmod m ∧ i.fmod m < m := by
  rw [Int.fmod_eq_emod_of_nonneg _ (by omega)]
  exact ⟨Int.emod_nonneg _ (by omega), Int.emod_lt_of_pos _ hm⟩
theorem draw_A {S : Sto} (hS : 0 < S.length) {cs : List Int} {i v s c b k : Int} (h : HB cs i v s c b) :
    ∃ x2 i' v' s', dA [some (.ref 0), some (.int k), none, none, none] (hT S (cellsP cs) (.int i) (.int v) (.int s) (.int c)) = .nx [some (.ref 0), some (.int k), x2, none, none] (hT S (cellsP cs) (.int i') (.int v') (.int s') (.int c)) ∧ HB cs i' v' s' c b := by
  by_cases c1 : v = 0
  · by_cases c2 : i < cs.length
    · obtain ⟨y, hy, ey⟩ := ix_cells (S := hT S (cellsP cs) (.int i) (.int v) (.int s) (.int c)) h.i c2
      obtain ⟨y0, y1⟩ := h.cs y hy
      have m1 : ∀ S, fMul false (.int s) (.int 69621) S = .ok (.int (s * 69621)) S := fun S => mul_sm (big40 h.s0 (Int.lt_trans h.s1 (by decide))) (by decide +kernel)
      have m2 : ∀ S, fMul false (.int y) (.int 40692) S = .ok (.int (y * 40692)) S := fun S => mul_bg y1 (by decide +kernel)
      have m3 : ∀ S j, fMod (.int j) (.int 2147483629) S = .ok (.int (j.fmod 2147483629)) S := fun S j => mod_sm (by decide)
      have f3 := fmod_pos (i := s * 69621 + y * 40692 + 37) (m := 2147483629) (by decide)
      subst c1
      by_cases c3 : (1000000000000000000 : Int) ≤ y
      · refine ⟨some (.int y), i + 1, y, (s * 69621 + y * 40692 + 37).fmod 2147483629, ?_, ⟨h.cs, by have := h.i; omega, y0, y1, f3.1, by omega, h.c0, h.c1⟩⟩
        simp [dA, runF, startP, endOf, dRet, dRetN, dIf, dIfS, dB, dBin, dUn, dV, dC, sE, asB, dSeq, dSet, dPar, dPar3, dAsg, dExpr, dAnd, dOr, dNot, bAnd, bOr, bNot, dTru, dCB, dCons, dNil, dTup, dLst, dChain, dPass, fCmpI, fIsN, gTp, gsCons, gsNil, gNm, mkTup, dSl, dPart, dNoPart, lim, iLt, iLe, iGt, iGe, ix0 hS, ix1 hS, ix2 hS, ix3 hS, len_cells, w_eq, c2, ey, gIx, st1 hS, st2 hS, st3 hS, w_add, m1, m2, m3, w_int, p18, c3]
      · refine ⟨some (.int y), i + 1, 0, (s * 69621 + y * 40692 + 37).fmod 2147483629, ?_, ⟨h.cs, by have := h.i; omega, by decide, by decide, f3.1, by omega, h.c0, h.c1⟩⟩
        simp [dA, runF, startP, endOf, dRet, dRetN, dIf, dIfS, dB, dBin, dUn, dV, dC, sE, asB, dSeq, dSet, dPar, dPar3, dAsg, dExpr, dAnd, dOr, dNot, bAnd, bOr, bNot, dTru, dCB, dCons, dNil, dTup, dLst, dChain, dPass, fCmpI, fIsN, gTp, gsCons, gsNil, gNm, mkTup, dSl, dPart, dNoPart, lim, iLt, iLe, iGt, iGe, ix0 hS, ix1 hS, ix2 hS, ix3 hS, len_cells, w_eq, c2, ey, gIx, st1 hS, st2 hS, st3 hS, w_add, m1, m2, m3, w_int, p18, c3]
    · refine ⟨none, i, v, s, ?_, h⟩
      subst c1
      simp [dA, runF, startP, endOf, dRet, dRetN, dIf, dIfS, dB, dBin, dUn, dV, dC, sE, asB, dSeq, dSet, dPar, dPar3, dAsg, dExpr, dAnd, dOr, dNot, bAnd, bOr, bNot, dTru, dCB, dCons, dNil, dTup, dLst, dChain, dPass, fCmpI, fIsN, gTp, gsCons, gsNil, gNm, mkTup, dSl, dPart, dNoPart, lim, iLt, iLe, iGt, iGe, ix0 hS, ix1 hS, ix2 hS, len_cells, w_eq, c2]
  · refine ⟨none, i, v, s, ?_, h⟩
    simp [dA, runF, startP, endOf, dRet, dRetN, dIf, dIfS, dB, dBin, dUn, dV, dC, sE, asB, dSeq, dSet, dPar, dPar3, dAsg, dExpr, dAnd, dOr, dNot, bAnd, bOr, bNot, dTru, dCB, dCons, dNil, dTup, dLst, dChain, dPass, fCmpI, fIsN, gTp, gsCons, gsNil, gNm, mkTup, dSl, dPart, dNoPart, lim, iLt, iLe, iGt, iGe, ix2 hS, w_eq, c1]
theorem fdiv_sm {v k : Int} (h0 : 0 ≤ v) (hk : 0 < k) : 0 ≤ v.fdiv k ∧ v.fdiv k ≤ v := by
  rw [Int.fdiv_eq_ediv_of_nonneg _ (by omega)]
  exact ⟨Int.ediv_nonneg h0 (by omega), Int.ediv_le_self _ h0⟩
theorem draw_B {S : Sto} (hS : 0 < S.length) {cs : List Int} {i v s c b k : Int} {x2 : Option PV} (hk : 0 < k) (hk2 : k ≤ 1000000000000000000000000000000) (h : HB cs i v s c b) :
    (0 < v ∧ ∃ d v', dBs [some (.ref 0), some (.int k), x2, none, none] (hT S (cellsP cs) (.int i) (.int v) (.int s) (.int c)) = .rt (.int d) (hT S (cellsP cs) (.int i) (.int v') (.int s) (.int c)) ∧ 0 ≤ d ∧ d < k ∧ HB cs i v' s c b) ∨
    (v = 0 ∧ dBs [some (.ref 0), some (.int k), x2, none, none] (hT S (cellsP cs) (.int i) (.int v) (.int s) (.int c)) = .nx [some (.ref 0), some (.int k), x2, none, none] (hT S (cellsP cs) (.int i) (.int v) (.int s) (.int c))) := by
  have m : ∀ S, fMod (.int v) (.int k) S = .ok (.int (v.fmod k)) S := fun S => mod_sm hk
  have d : ∀ S, fDiv (.int v) (.int k) S = .ok (.int (v.fdiv k)) S := fun S => div_sm hk (Nat.le_trans (show k.natAbs ≤ 1000000000000000000000000000000 by omega) (by decide +kernel))
  by_cases hv : 0 < v
  · refine .inl ⟨hv, v.fmod k, v.fdiv k, ?_, (fmod_pos hk).1, (fmod_pos hk).2, ⟨h.cs, h.i, (fdiv_sm h.v0 hk).1, Nat.le_trans (log2_mono (by have := fdiv_sm h.v0 hk; omega)) h.v1, h.s0, h.s1, h.c0, h.c1⟩⟩
    simp [dBs, runF, startP, endOf, dRet, dRetN, dIf, dIfS, dB, dBin, dUn, dV, dC, sE, asB, dSeq, dSet, dPar, dPar3, dAsg, dExpr, dAnd, dOr, dNot, bAnd, bOr, bNot, dTru, dCB, dCons, dNil, dTup, dLst, dChain, dPass, fCmpI, fIsN, gTp, gsCons, gsNil, gNm, mkTup, dSl, dPart, dNoPart, lim, iLt, iLe, iGt, iGe, ix2 hS, hv, w_int, m, d, gIx, st2 hS]
  · have e : v = 0 := by have := h.v0; omega
    refine .inr ⟨e, ?_⟩
    simp [dBs, runF, startP, endOf, dRet, dRetN, dIf, dIfS, dB, dBin, dUn, dV, dC, sE, asB, dSeq, dSet, dPar, dPar3, dAsg, dExpr, dAnd, dOr, dNot, bAnd, bOr, bNot, dTru, dCB, dCons, dNil, dTup, dLst, dChain, dPass, fCmpI, fIsN, gTp, gsCons, gsNil, gNm, mkTup, dSl, dPart, dNoPart, lim, iLt, iLe, iGt, iGe, ix2 hS, e]
theorem draw_C {S : Sto} (hS : 0 < S.length) {cs : List Int} {i v s c b k : Int} {x2 : Option PV} (hk : 0 < k) (hb : b ≤ 1000000000) (h : HB cs i v s c b) :
    ∃ d, endOf (dCs [some (.ref 0), some (.int k), x2, none, none] (hT S (cellsP cs) (.int i) (.int v) (.int s) (.int c))) = .ok (.int d) (hT S (cellsP cs) (.int i) (.int v) (.int s) (.int (c + 1))) ∧ 0 ≤ d ∧ d < k ∧ HB cs i v s (c + 1) (b + 1) := by
  have hc := h.c0
  have hc1 := h.c1
  have hs0 := h.s0
  have hs1 := h.s1
  have m1 : ∀ S, fMul false (.int 7919) (.int (c + 1)) S = .ok (.int (7919 * (c + 1))) S := fun S => mul_sm (by decide +kernel) (big40 (by omega) (by omega))
  have m2 : ∀ S, fMul false (.int (s + 7919 * (c + 1))) (.int 48271) S = .ok (.int ((s + 7919 * (c + 1)) * 48271)) S := fun S => mul_sm (big40 (by omega) (by omega)) (by decide +kernel)
  have md : ∀ (S : Sto) (j m : Int), 0 < m → fMod (.int j) (.int m) S = .ok (.int (j.fmod m)) S := fun S j m hm => mod_sm hm
  obtain ⟨a0, a1⟩ := fmod_pos (i := (s + 7919 * (c + 1)) * 48271) (m := 2147483647) (by decide)
  generalize hx : ((s + 7919 * (c + 1)) * 48271).fmod 2147483647 = x at a0 a1
  have dd : ∀ (S : Sto) (j m : Int), 0 < m → m ≤ 1000000 → fDiv (.int j) (.int m) S = .ok (.int (j.fdiv m)) S := fun S j m h1 h2 => div_sm h1 (big40 (by omega) (by omega))
  have x0 := fdiv_sm a0 (k := 1009) (by decide)
  have m3 : ∀ S, fMul false (.int x) (.int (x.fdiv 1009 + 69621)) S = .ok (.int (x * (x.fdiv 1009 + 69621))) S := fun S => mul_sm (big40 a0 (by omega)) (big40 (by omega) (by omega))
  obtain ⟨b0, b1⟩ := fmod_pos (i := x * (x.fdiv 1009 + 69621)) (m := 2147483647) (by decide)
  generalize hy : (x * (x.fdiv 1009 + 69621)).fmod 2147483647 = y at b0 b1
  have y0 := fdiv_sm b0 (k := 2003) (by decide)
  have m4 : ∀ S, fMul false (.int y) (.int (y.fdiv 2003 + 40014)) S = .ok (.int (y * (y.fdiv 2003 + 40014))) S := fun S => mul_sm (big40 b0 (by omega)) (big40 (by omega) (by omega))
  obtain ⟨c0, c1⟩ := fmod_pos (i := y * (y.fdiv 2003 + 40014)) (m := 2147483563) (by decide)
  generalize hz : (y * (y.fdiv 2003 + 40014)).fmod 2147483563 = z at c0 c1
  refine ⟨(z.fdiv 16).fmod k, ?_, (fmod_pos hk).1, (fmod_pos hk).2, ⟨h.cs, h.i, h.v0, h.v1, h.s0, h.s1, by omega, by omega⟩⟩
  have q1 := fun S => md S ((s + 7919 * (c + 1)) * 48271) 2147483647 (by decide)
  rw [hx] at q1
  have q2 := fun S => md S (x * (x.fdiv 1009 + 69621)) 2147483647 (by decide)
  rw [hy] at q2
  have q3 := fun S => md S (y * (y.fdiv 2003 + 40014)) 2147483563 (by decide)
  rw [hz] at q3
  have q4 := fun S => md S (z.fdiv 16) k hk
  have r1 := fun S => dd S x 1009 (by decide) (by decide)
  have r2 := fun S => dd S y 2003 (by decide) (by decide)
  have r3 := fun S => dd S z 16 (by decide) (by decide)
  simp [dCs, runF, startP, endOf, dRet, dRetN, dIf, dIfS, dB, dBin, dUn, dV, dC, sE, asB, dSeq, dSet, dPar, dPar3, dAsg, dExpr, dAnd, dOr, dNot, bAnd, bOr, bNot, dTru, dCB, dCons, dNil, dTup, dLst, dChain, dPass, fCmpI, fIsN, gTp, gsCons, gsNil, gNm, mkTup, dSl, dPart, dNoPart, lim, iLt, iLe, iGt, iGe, ix3 hS, ix4 hS, gIx, st4 hS, w_add, m1, m2, m3, m4, q1, q2, q3, q4, r1, r2, r3, w_int]
/-- the hand stands in the store -/
def Hk (b : Int) (S : Sto) : Prop := ∃ cs i v s c, S[0]? = some (SO.lst [cellsP cs, .int i, .int v, .int s, .int c]) ∧ HB cs i v s c b
theorem Hk.mono {b b' : Int} {S : Sto} (h : Hk b S) (hb : b ≤ b') : Hk b' S := by
  obtain ⟨cs, i, v, s, c, e, k⟩ := h
  exact ⟨cs, i, v, s, c, e, ⟨k.cs, k.i, k.v0, k.v1, k.s0, k.s1, k.c0, by have := k.c1; omega⟩⟩
theorem Hk.more {b : Int} {S : Sto} (h : Hk b S) (l : List SO) : Hk b (S ++ l) := by
  obtain ⟨cs, i, v, s, c, e, k⟩ := h
  exact ⟨cs, i, v, s, c, by rw [List.getElem?_append_left (List.getElem?_eq_some_iff.mp e).1]; exact e, k⟩
theorem hT_self {S : Sto} {a b c d e : PV} (h : S[0]? = some (SO.lst [a, b, c, d, e])) : S = hT S a b c d e := by
  unfold hT
  cases S with
  | nil => cases h
  | cons x r =>
    simp at h
    rw [h]
    rfl
theorem e_draw {b k : Int} {S : Sto} (h : Hk b S) (hk : 0 < k) (hk2 : k ≤ 1000000000000000000000000000000) (hb : b ≤ 1000000000) : ∃ d S', F_law_draw_L [.ref 0, .int k] S = .ok (.int d) S' ∧ 0 ≤ d ∧ d < k ∧ Hk (b + 1) S' := by
  obtain ⟨cs, i, v, s, c, e, q⟩ := h
  have hS : 0 < S.length := (List.getElem?_eq_some_iff.mp e).1
  rw [hT_self e]
  obtain ⟨x2, i', v', s', hA, q'⟩ := draw_A (k := k) hS q
  have at_ : ∀ {i v s c : Int} {b' : Int}, HB cs i v s c b' → Hk b' (hT S (cellsP cs) (.int i) (.int v) (.int s) (.int c)) := fun {i v s c b'} q => ⟨cs, i, v, s, c, hT_get hS, q⟩
  have step : F_law_draw_L [.ref 0, .int k] (hT S (cellsP cs) (.int i) (.int v) (.int s) (.int c)) = endOf (match dA [some (.ref 0), some (.int k), none, none, none] (hT S (cellsP cs) (.int i) (.int v) (.int s) (.int c)) with
    | .nx ρ' S' => (match dBs ρ' S' with | .nx ρ' S' => dCs ρ' S' | r => r)
    | r => r) := rfl
  rw [step, hA]
  simp only
  rcases draw_B (x2 := x2) hS hk hk2 q' with ⟨_, d, v2, hB, d0, d1, q2⟩ | ⟨_, hB⟩
  · rw [hB]
    exact ⟨d, _, rfl, d0, d1, (at_ q2).mono (by omega)⟩
  · rw [hB]
    obtain ⟨d, hC, d0, d1, q3⟩ := draw_C (x2 := x2) hS hk hb q'
    simp only
    rw [hC]
    exact ⟨d, _, rfl, d0, d1, at_ q3⟩
theorem len_nl {xs : List PV} {S : Sto} : fLen [.nl xs] S = .ok (.int xs.length) S := rfl
theorem lcP_draw {α β γ : Type} {f : PV → EnP → Option EnP} {de : EnP → Sto → Res PV} {ρ : EnP} (enc : α → PV) (e : β → PV) (P : α → Prop) (Q : β → Prop) (key : β → γ) (key' : α → γ) (k : Nat)
    (h : ∀ (x : α) (S : Sto) (b : Int), P x → Hk b S → b ≤ 999990000 → ∃ ρ1 y S', f (enc x) ρ = some ρ1 ∧ de ρ1 S = .ok (e y) S' ∧ Q y ∧ key y = key' x ∧ Hk (b + k) S') :
    ∀ (xs : List α) (acc : List PV) (S : Sto) (b : Int), (∀ x ∈ xs, P x) → Hk b S → b + k * xs.length ≤ 999990000 → acc.length + xs.length ≤ 1000 →
      ∃ (ys : List β) (S' : Sto), lcP f dYes de ρ (xs.map enc) acc S = .ok (acc ++ ys.map e) S' ∧ (∀ y ∈ ys, Q y) ∧ ys.map key = xs.map key' ∧ Hk (b + k * xs.length) S'
  | [], acc, S, b, _, hS, _, _ => ⟨[], S, by simp [lcP], by simp, rfl, by simpa using hS⟩
  | x :: xs, acc, S, b, hP, hS, hb, hl => by
    rw [List.length_cons] at hb hl
    have e0 : (k : Int) * ((xs.length + 1 : Nat) : Int) = k * xs.length + k := by rw [Int.natCast_add, Int.mul_add]; simp
    rw [e0] at hb
    have kn : 0 ≤ (k : Int) * (xs.length : Int) := Int.mul_nonneg (by omega) (by omega)
    obtain ⟨ρ1, y, S1, e1, e2, q, ky, h1⟩ := h x S b (hP x List.mem_cons_self) hS (by omega)
    obtain ⟨ys, S2, e3, q3, k3, h3⟩ := lcP_draw enc e P Q key key' k h xs (acc ++ [e y]) S1 (b + k) (fun z hz => hP z (List.mem_cons_of_mem _ hz)) h1 (by omega) (by simp; omega)
    refine ⟨y :: ys, S2, ?_, ?_, ?_, ?_⟩
    · rw [List.map_cons, lcP]
      simp only [e1, dYes, e2]
      rw [if_pos (by unfold lim; omega), e3]
      simp
    · intro z hz
      rcases List.mem_cons.mp hz with rfl | hz
      · exact q
      · exact q3 z hz
    · rw [List.map_cons, List.map_cons, ky, k3]
    · rw [List.length_cons, e0]
      have : b + (k * xs.length + k) = b + k + k * xs.length := by omega
      rw [this]
      exact h3
theorem upTo_map (n : Nat) : Mi.upTo 0 n = (List.range n).map fun (i : Nat) => PV.int (i : Int) := by
  unfold Mi.upTo
  congr 1
  funext i
  simp
theorem e_any {b : Int} {S : Sto} {xs : List PV} (h : Hk b S) (hb : b ≤ 999999000) (hx : 0 < xs.length) (hx2 : xs.length ≤ 1000) : ∃ y ∈ xs, ∃ S', F_law_any_L [.ref 0, .nl xs] S = .ok y S' ∧ Hk (b + 1) S' := by
  obtain ⟨d, S1, e1, a1, b1, k1⟩ := e_draw (k := xs.length) h (by omega) (by omega) (by omega)
  have hl : d.toNat < xs.length := by omega
  refine ⟨xs[d.toNat], List.getElem_mem hl, S1, ?_, k1⟩
  have e : atI xs d = some xs[d.toNat] := by
    unfold atI ixN
    rw [if_pos a1, if_pos (by omega)]
    simp [hl]
  have e2 : fIx (.nl xs) (.int d) S1 = .ok xs[d.toNat] S1 := by
    show (match atI xs d with | some v => Res.ok v S1 | none => .bad) = _
    rw [e]
  simp [F_law_any_L, d_law_any_L, runF, startP, endOf, dRet, dRetN, dIf, dIfS, dB, dBin, dUn, dV, dC, sE, asB, dSeq, dSet, dPar, dPar3, dAsg, dExpr, dAnd, dOr, dNot, bAnd, bOr, bNot, dTru, dCB, dCons, dNil, dTup, dLst, dChain, dPass, fCmpI, fIsN, gTp, gsCons, gsNil, gNm, mkTup, dSl, dPart, dNoPart, lim, iLt, iLe, iGt, iGe, len_nl, e1, e2]
end G72
end
section
set_option Elab.async false
set_option linter.all false
set_option maxRecDepth 100000
set_option maxHeartbeats 1000000
namespace G72
open PySem PySem.Spec PyProof.Rows L2 Mi Ra
theorem cut63 {xs : List PV} (h : xs.length ≤ 63) : cutP xs none (some 63) = xs := by
  unfold cutP
  have a : HT.sIx xs.length 0 none = 0 := rfl
  have b : HT.sIx xs.length xs.length (some 63) = min 63 xs.length := HT.sIx_nat _ _ 63
  rw [a, b, List.drop_zero, Nat.sub_zero, Nat.min_eq_right h, List.take_length]
theorem e_hand {ns : List Int} (h : ns.length ≤ 63) (hb : ∀ z ∈ ns, Builtin.Int.intBits z ≤ 1048576) : ∃ S', F_law_hand_L [.fl (ns.map .int)] [] = .ok (.ref 0) S' ∧ Hk 0 S' := by
  have e0 : iSeq (dSl false (dV 0) (dNoPart) (dPart (dC (.int 63)))) [some (.fl (ns.map .int)), none, none] [] = .ok (ns.map PV.int) [] := by
    have c : fSl false (.fl (ns.map PV.int)) none (some 63) [] = .ok (.nl (ns.map PV.int)) [] := by
      show mkLst false (cutP (ns.map PV.int) none (some 63)) [] = _
      rw [cut63 (by simpa using h)]
      unfold mkLst
      rw [if_pos (by simp [lim]; omega)]
      rfl
    simp [iSeq, runF, startP, endOf, dRet, dRetN, dIf, dIfS, dB, dBin, dUn, dV, dC, sE, asB, dSeq, dSet, dPar, dPar3, dAsg, dExpr, dAnd, dOr, dNot, bAnd, bOr, bNot, dTru, dCB, dCons, dNil, dTup, dLst, dChain, dPass, fCmpI, fIsN, gTp, gsCons, gsNil, gNm, mkTup, dSl, dPart, dNoPart, lim, iLt, iLe, iGt, iGe, c]
    try rfl
  have pw : ∀ S, fPow (.int 10) (.int 36) S = .ok (.int (10 ^ 36)) S := fun S => pow_sm (by decide)
  have lc := dLc_map (f := cNm 2) (de := dBin fMod (dCB fInt (dCons (dCB fAbs (dCons (dCB fInt (dCons (dV 2) (dNil))) (dNil))) (dNil))) (dBin fPow (dC (.int 10)) (dC (.int 36)))) (ρ := [some (.fl (ns.map .int)), none, none]) (vs := [2]) PV.int (fun i => PV.int (Int.fmod (if i < 0 then -i else i) (10 ^ 36))) (fun _ => True) e0 (fun x _ => ⟨_, rfl, fun S => by
    show (((Res.ok (PV.int (if x < 0 then -x else x)) S).bind fun a S1 => ((fPow (.int 10) (.int 36) S1).bind fun b S2 => fMod a b S2))) = _
    rw [Res.bind_ok, pw, Res.bind_ok]
    show (if ((10 : Int) ^ 36) ≠ 0 then Res.ok (PV.int (Int.fmod (if x < 0 then -x else x) (10 ^ 36))) S else .bad) = _
    rw [if_pos (by decide)]⟩) (fun _ _ => trivial) (by unfold lim; omega)
  have m5 : ∀ S, fMul false (.int 5) (.int (ns.length : Int)) S = .ok (.int (5 * (ns.length : Int))) S := fun S => mul_sm (by decide +kernel) (big40 (by omega) (by omega))
  refine ⟨[SO.lst [cellsP (ns.map fun i => Int.fmod (if i < 0 then -i else i) (10 ^ 36)), .int 0, .int 0, .int (72 + 5 * (ns.length : Int)), .int 0]], ?_, _, 0, 0, _, 0, rfl, ⟨?_, by omega, by omega, by decide, by omega, by omega, by omega, by omega⟩⟩
  · have c : (ns.map fun i => PV.int (Int.fmod (if i < 0 then -i else i) (10 ^ 36))) = (ns.map fun i => Int.fmod (if i < 0 then -i else i) (10 ^ 36)).map PV.int := by rw [List.map_map]; rfl
    rw [c] at lc
    have ln : ∀ S, fLen [PV.nl ((ns.map fun i => Int.fmod (if i < 0 then -i else i) (10 ^ 36)).map PV.int)] S = .ok (.int (ns.length : Int)) S := fun S => by rw [len_nl]; simp
    unfold cellsP
    generalize ((ns.map fun i => Int.fmod (if i < 0 then -i else i) (10 ^ 36)).map PV.int) = cc at lc ln
    simp [F_law_hand_L, d_law_hand_L, runF, startP, endOf, dRet, dRetN, dIf, dIfS, dB, dBin, dUn, dV, dC, sE, asB, dSeq, dSet, dPar, dPar3, dAsg, dExpr, dAnd, dOr, dNot, bAnd, bOr, bNot, dTru, dCB, dCons, dNil, dTup, dLst, dChain, dPass, fCmpI, fIsN, gTp, gsCons, gsNil, gNm, mkTup, dSl, dPart, dNoPart, lim, iLt, iLe, iGt, iGe, lc, ln, m5, w_add, mkLst]
  · intro x hx
    obtain ⟨i, _, rfl⟩ := List.mem_map.mp hx
    have q := fmod_pos (i := if i < 0 then -i else i) (m := (10 : Int) ^ 36) (by decide)
    have s : ((if i < 0 then -i else i).fmod (10 ^ 36)).natAbs ≤ 2 ^ 4000 := big40 q.1 (Int.lt_trans q.2 (by decide))
    have := log2_sm s
    exact ⟨q.1, by omega⟩
end G72
end
section
set_option Elab.async false
set_option linter.all false
set_option maxRecDepth 100000
set_option maxHeartbeats 1000000
set_option exponentiation.threshold 5000
namespace G72
open PySem PySem.Spec PyProof.Rows L2 Mi Ra
/-! ### the law's own words (k03, k04, k05) -/
def lwC : EnP → Sto → Res Bool := (dB (dBin (fCmpI iGt) (dV 3) (dC (.int 0))))
def lwB : EnP → Sto → SR := (dPar 2 3 (dCons (dV 3) (dCons (dBin fMod (dCB fInt (dCons (dV 2) (dNil))) (dV 3)) (dNil))))
theorem lw_loop {a0 a1 : Option PV} (n : Nat) : ∀ (a b : Nat) (S : Sto), b < n → whileP lwC lwB n [a0, a1, some (.int a), some (.int b)] S = .nx [a0, a1, some (.int (Nat.gcd a b)), some (.int 0)] S := by
  induction n with
  | zero => intro a b S h; omega
  | succ n ih =>
    intro a b S h
    rw [whileP]
    by_cases hb : b = 0
    · subst hb
      simp [lwC, runF, startP, endOf, dRet, dRetN, dIf, dIfS, dB, dBin, dUn, dV, dC, sE, asB, dSeq, dSet, dPar, dPar3, dAsg, dExpr, dAnd, dOr, dNot, bAnd, bOr, bNot, dTru, dCB, dCons, dNil, dTup, dLst, dChain, dPass, fCmpI, fIsN, gTp, gsCons, gsNil, gNm, mkTup, dSl, dPart, dNoPart, lim, iLt, iLe, iGt, iGe]
    · have hp : (0 : Int) < (b : Int) := by omega
      have e : fMod (.int a) (.int b) S = .ok (.int ((a % b : Nat) : Int)) S := by rw [mod_sm hp, fmod_nat]
      have lt := Nat.mod_lt a (by omega : 0 < b)
      have step := ih b (a % b) S (by omega)
      have hg : Nat.gcd b (a % b) = Nat.gcd a b := by rw [Nat.gcd_comm a b, Nat.gcd_rec b a, Nat.gcd_comm]
      have c : lwC [a0, a1, some (.int a), some (.int b)] S = .ok true S := by simp [lwC, runF, startP, endOf, dRet, dRetN, dIf, dIfS, dB, dBin, dUn, dV, dC, sE, asB, dSeq, dSet, dPar, dPar3, dAsg, dExpr, dAnd, dOr, dNot, bAnd, bOr, bNot, dTru, dCB, dCons, dNil, dTup, dLst, dChain, dPass, fCmpI, fIsN, gTp, gsCons, gsNil, gNm, mkTup, dSl, dPart, dNoPart, lim, iLt, iLe, iGt, iGe, hp]; omega
      have d : lwB [a0, a1, some (.int a), some (.int b)] S = .nx [a0, a1, some (.int b), some (.int ((a % b : Nat) : Int))] S := by
        simp only [lwB, runF, startP, endOf, dRet, dRetN, dIf, dIfS, dB, dBin, dUn, dV, dC, sE, asB, dSeq, dSet, dPar, dPar3, dAsg, dExpr, dAnd, dOr, dNot, bAnd, bOr, bNot, dTru, dCB, dCons, dNil, dTup, dLst, dChain, dPass, fCmpI, fIsN, gTp, gsCons, gsNil, gNm, mkTup, dSl, dPart, dNoPart, lim, iLt, iLe, iGt, iGe, List.getElem?_cons_succ, List.getElem?_cons_zero, Res.bind_ok, w_int, e, List.set_cons_zero, List.set_cons_succ]
      rw [c]
      simp only [sE, if_true, d, step, hg]
theorem l_low {a b : Int} {S : Sto} (hb : 0 < b) (ha : a.natAbs ≤ 2 ^ 4000) (h : b.natAbs ≤ 10 ^ 601) : F_law_low_L [.int a, .int b] S = .ok (eQ (Rat.divInt a b)) S := by
  have ab : ∀ i : Int, (if i < 0 then -i else i) = (i.natAbs : Int) := fun i => by split <;> omega
  have l := fun S => lw_loop (a0 := some (.int a)) (a1 := some (.int b)) fuel a.natAbs b.natAbs S (fuel_big h)
  have gg : ((Nat.gcd a.natAbs b.natAbs : Nat) : Int) = ((Int.gcd a b : Nat) : Int) := rfl
  rw [gg] at l
  have nab : ((b.natAbs : Nat) : Int) = b := by omega
  rw [nab] at l
  obtain ⟨g0, g1⟩ := gcd_sm (a := a) (by omega) h
  have dv : ∀ i S, fDiv (.int i) (.int ((Int.gcd a b : Nat) : Int)) S = .ok (.int (i.fdiv ((Int.gcd a b : Nat) : Int))) S := fun i S => div_sm g0 g1
  have e : PV.tup [.int (a.fdiv (Int.gcd a b)), .int (b.fdiv (Int.gcd a b))] = eQ (Rat.divInt a b) := by
    unfold eQ; rw [num_div hb, den_div hb]
  have m1 := fun S => mul_sm (S := S) (i := 1) (j := a) (by decide +kernel) ha
  have m2 := fun S => mul_sm (S := S) (i := 1) (j := b) (by decide +kernel) (le4000 h)
  have nb : ¬ b < 0 := by omega
  have dd : d_law_low_L = dSeq (dPar 2 3 (dCons (dCB fAbs (dCons (dV 0) (dNil))) (dCons (dV 1) (dNil)))) (dSeq (whileP lwC lwB fuel) (dRet (dTup (dCons (dBin fDiv (dV 0) (dV 2)) (dCons (dBin fDiv (dV 1) (dV 2)) (dNil)))))) := rfl
  simp [F_law_low_L, dd, runF, startP, endOf, dRet, dRetN, dIf, dIfS, dB, dBin, dUn, dV, dC, sE, asB, dSeq, dSet, dPar, dPar3, dAsg, dExpr, dAnd, dOr, dNot, bAnd, bOr, bNot, dTru, dCB, dCons, dNil, dTup, dLst, dChain, dPass, fCmpI, fIsN, gTp, gsCons, gsNil, gNm, mkTup, dSl, dPart, dNoPart, lim, iLt, iLe, iGt, iGe, w_abs, ab, nab, l, hb, nb, m1, m2, dv, e, w_neg]
theorem dd_pos (x y : Rat) : 0 < (x.den : Int) * (y.den : Int) := Int.mul_pos (den_p x) (den_p y)
theorem pr4000 {a b : Int} (ha : a.natAbs ≤ 10 ^ 600) (hb : b.natAbs ≤ 10 ^ 600) : (a * b).natAbs ≤ 10 ^ 1200 := Nat.le_trans (mul_abs ha hb) (by decide +kernel)
theorem n6 {x : Rat} (h : Ok x) : x.num.natAbs ≤ 10 ^ 300 := Nat.le_of_lt h.n
theorem d6 {x : Rat} (h : Ok x) : (x.den : Int).natAbs ≤ 10 ^ 300 := by rw [Int.natAbs_natCast]; exact Nat.le_of_lt h.d
theorem pr_ok {a b : Int} (ha : a.natAbs ≤ 10 ^ 300) (hb : b.natAbs ≤ 10 ^ 300) : (a * b).natAbs ≤ 2 ^ 4000 := Nat.le_trans (mul_abs ha hb) (by decide +kernel)
theorem l_plus {x y : Rat} {S : Sto} (hx : Ok x) (hy : Ok y) : F_law_plus_L [eQ x, eQ y] S = .ok (eQ (x + y)) S := by
  have s1 := mul_abs (n6 hx) (d6 hy)
  have s2 := mul_abs (n6 hy) (d6 hx)
  have sa : (x.num * (y.den : Int) + y.num * (x.den : Int)).natAbs ≤ 2 ^ 4000 := Nat.le_trans (Int.natAbs_add_le _ _) (Nat.le_trans (Nat.add_le_add s1 s2) (by decide +kernel))
  have m := fun S => l_low (a := x.num * y.den + y.num * x.den) (b := x.den * y.den) (S := S) (dd_pos x y) sa (dd_lim hx hy)
  rw [add_is] at m
  have a1 := fun S => mul_sm (S := S) (sm_n hx) (sm_d hy)
  have a2 := fun S => mul_sm (S := S) (sm_n hy) (sm_d hx)
  have a3 := fun S => mul_sm (S := S) (sm_d hx) (sm_d hy)
  simp [F_law_plus_L, d_law_plus_L, runF, startP, endOf, dRet, dRetN, dIf, dIfS, dB, dBin, dUn, dV, dC, sE, asB, dSeq, dSet, dPar, dPar3, dAsg, dExpr, dAnd, dOr, dNot, bAnd, bOr, bNot, dTru, dCB, dCons, dNil, dTup, dLst, dChain, dPass, fCmpI, fIsN, gTp, gsCons, gsNil, gNm, mkTup, dSl, dPart, dNoPart, lim, iLt, iLe, iGt, iGe, ix_q0, ix_q1, a1, a2, a3, w_add, m]
theorem q_neg (x : Rat) : PV.tup [.int (-x.num), .int x.den] = eQ (-x) := by unfold eQ; rw [Rat.neg_num, Rat.neg_den]
theorem okn {x : Rat} (h : Ok x) : Ok (-x) := ⟨by rw [Rat.neg_num, Int.natAbs_neg]; exact h.n, by rw [Rat.neg_den]; exact h.d⟩
/-- short enough to be told apart -/
structure W4 (x : Rat) : Prop where
  n : x.num.natAbs ≤ 2 ^ 4000
  d : (x.den : Int).natAbs ≤ 2 ^ 4000
theorem w4 {x : Rat} (h : Ok x) : W4 x := ⟨sm_n h, sm_d h⟩
theorem pw_w4 {b : Nat} {e : Int} (hb : 0 < b) (hb2 : b ≤ 16) (he : e.natAbs ≤ 1000) : W4 (pw b e) := by
  have p := pw_num hb e
  have l : b ^ e.natAbs ≤ 2 ^ 4000 := Nat.le_trans (Nat.pow_le_pow_left hb2 _) (Nat.le_trans (Nat.pow_le_pow_right (by decide) he) (by decide +kernel))
  exact ⟨Nat.le_trans p.1 l, by rw [Int.natAbs_natCast]; exact Nat.le_trans p.2 l⟩
end G72
end
section
set_option Elab.async false
set_option linter.all false
set_option maxRecDepth 100000
set_option maxHeartbeats 4000000
namespace G72
open PySem PySem.Spec PyProof.Rows L2 Mi Ra
/-! ### promises -/
structure Pr where
  name : Str
  ins : List Hd
  rows : List (Int × Hd)
  out : Hd
def eRow (r : Int × Hd) : PV := .tup [.int r.1, eH r.2]
def eI (p : Pr) : PV := .tup (p.ins.map eH)
def eR (p : Pr) : PV := .tup (p.rows.map eRow)
def ePr (p : Pr) : PV := .tup [.str p.name, eI p, eR p, eH p.out]
structure HG (h : Hd) : Prop where
  ok : HOk h
  is : h.Is
structure RG (r : Int × Hd) : Prop where
  r0 : 1 ≤ r.1
  r1 : r.1 ≤ 30
  h : HG r.2
def NameOk (s : Str) : Prop := s = "a" ∨ s = "b" ∨ s = "bb" ∨ s = "proc" ∨ s = "other"
structure PrOk (p : Pr) : Prop where
  name : NameOk p.name
  ins : ∀ h ∈ p.ins, HG h
  lin : p.ins.length ≤ 6
  rows : ∀ r ∈ p.rows, RG r
  lrow : p.rows.length ≤ 3
  out : HG p.out
theorem p0 (p : Pr) (S : Sto) : fIx (ePr p) (.int 0) S = .ok (.str p.name) S := rfl
theorem p1 (p : Pr) (S : Sto) : fIx (ePr p) (.int 1) S = .ok (eI p) S := rfl
theorem p2 (p : Pr) (S : Sto) : fIx (ePr p) (.int 2) S = .ok (eR p) S := rfl
theorem p3 (p : Pr) (S : Sto) : fIx (ePr p) (.int 3) S = .ok (eH p.out) S := rfl
theorem ix_r0 (r : Int × Hd) (S : Sto) : fIx (eRow r) (.int 0) S = .ok (.int r.1) S := rfl
theorem ix_r1 (r : Int × Hd) (S : Sto) : fIx (eRow r) (.int 1) S = .ok (eH r.2) S := rfl
theorem e_name {s : Str} (h : NameOk s) (S : Sto) : F_is_name [.str s] S = .ok (.bl true) S := by
  rcases h with rfl | rfl | rfl | rfl | rfl <;> kernel_rfl
theorem all_t {α : Type} (xs : List α) (S : Sto) : fAll [.nl (xs.map fun _ => PV.bl true)] S = .ok (.bl true) S := by
  have := all_map (fun _ => true) xs S
  rw [this]
  simp
theorem e_row {r : Int × Hd} (h : RG r) (S : Sto) : F_is_row [eRow r] S = .ok (.bl true) S := by
  have a : ∀ S, fIsi [eRow r, .ty "tuple"] S = .ok (.bl true) S := fun S => rfl
  have b : ∀ S, fLen [eRow r] S = .ok (.int 2) S := fun S => rfl
  have i : ∀ S, F_is_integer [.int r.1] S = .ok (.bl true) S := fun S => rfl
  have w : ∀ S, F_is_within [.int r.1, .int 1, .int 30] S = .ok (.bl true) S := fun S => by
    simp [F_is_within, d_is_within, runF, startP, endOf, dRet, dRetN, dIf, dIfS, dB, dBin, dUn, dV, dC, sE, asB, dSeq, dSet, dPar, dPar3, dAsg, dExpr, dAnd, dOr, dNot, bAnd, bOr, bNot, dTru, dCB, dCons, dNil, dTup, dLst, dChain, dPass, fCmpI, fIsN, gTp, gsCons, gsNil, gNm, mkTup, dSl, dPart, dNoPart, lim, iLt, iLe, iGt, iGe, i, truP, h.r0, h.r1]
  have hh := fun S => e_is_hold (S := S) h.h.ok h.h.is
  simp [F_is_row, d_is_row, runF, startP, endOf, dRet, dRetN, dIf, dIfS, dB, dBin, dUn, dV, dC, sE, asB, dSeq, dSet, dPar, dPar3, dAsg, dExpr, dAnd, dOr, dNot, bAnd, bOr, bNot, dTru, dCB, dCons, dNil, dTup, dLst, dChain, dPass, fCmpI, fIsN, gTp, gsCons, gsNil, gNm, mkTup, dSl, dPart, dNoPart, lim, iLt, iLe, iGt, iGe, a, b, w_eq, w, ix_r0, ix_r1, hh, truP]
theorem e_rows {p : Pr} (h : PrOk p) (S : Sto) : F_are_rows [eR p] S = .ok (.bl true) S := by
  have a : ∀ S, fIsi [eR p, .ty "tuple"] S = .ok (.bl true) S := fun S => rfl
  have b : ∀ S, fLen [eR p] S = .ok (.int (p.rows.length : Int)) S := fun S => by
    show Res.ok (PV.int (((p.rows.map eRow).length : Nat) : Int)) S = _
    rw [List.length_map]
  have l := dLc_map (di := iSeq (dV 0)) (f := cNm 1) (de := dCB F_is_row (dCons (dV 1) (dNil))) (ρ := [some (eR p), none]) (vs := [1]) (S := S) (xs := p.rows) eRow (fun _ => .bl true) RG rfl (fun r hr => ⟨[some (eR p), some (eRow r)], rfl, fun S => by
    have := e_row hr
    simp [runF, startP, endOf, dRet, dRetN, dIf, dIfS, dB, dBin, dUn, dV, dC, sE, asB, dSeq, dSet, dPar, dPar3, dAsg, dExpr, dAnd, dOr, dNot, bAnd, bOr, bNot, dTru, dCB, dCons, dNil, dTup, dLst, dChain, dPass, fCmpI, fIsN, gTp, gsCons, gsNil, gNm, mkTup, dSl, dPart, dNoPart, lim, iLt, iLe, iGt, iGe, this]⟩) h.rows (by have := h.lrow; unfold lim; omega)
  have al := fun S => all_t p.rows S
  have c := h.lrow
  have d : (p.rows.length : Int) ≤ 3 := by omega
  simp [F_are_rows, d_are_rows, runF, startP, endOf, dRet, dRetN, dIf, dIfS, dB, dBin, dUn, dV, dC, sE, asB, dSeq, dSet, dPar, dPar3, dAsg, dExpr, dAnd, dOr, dNot, bAnd, bOr, bNot, dTru, dCB, dCons, dNil, dTup, dLst, dChain, dPass, fCmpI, fIsN, gTp, gsCons, gsNil, gNm, mkTup, dSl, dPart, dNoPart, lim, iLt, iLe, iGt, iGe, a, b, l, al, truP, d]
theorem e_promise {p : Pr} (h : PrOk p) (S : Sto) : F_is_promise [ePr p] S = .ok (.bl true) S := by
  have a : ∀ S, fIsi [ePr p, .ty "tuple"] S = .ok (.bl true) S := fun S => rfl
  have a1 : ∀ S, fIsi [eI p, .ty "tuple"] S = .ok (.bl true) S := fun S => rfl
  have b : ∀ S, fLen [ePr p] S = .ok (.int 4) S := fun S => rfl
  have b1 : ∀ S, fLen [eI p] S = .ok (.int (p.ins.length : Int)) S := fun S => by
    show Res.ok (PV.int (((p.ins.map eH).length : Nat) : Int)) S = _
    rw [List.length_map]
  have n := e_name h.name
  have l := dLc_map (di := iSeq (dV 1)) (f := cNm 2) (de := dCB F_is_hold (dCons (dV 2) (dNil))) (ρ := [some (ePr p), some (eI p), none]) (vs := [2]) (S := S) (xs := p.ins) eH (fun _ => .bl true) HG rfl (fun r hr => ⟨[some (ePr p), some (eI p), some (eH r)], rfl, fun S => by
    have := fun S => e_is_hold (S := S) hr.ok hr.is
    simp [runF, startP, endOf, dRet, dRetN, dIf, dIfS, dB, dBin, dUn, dV, dC, sE, asB, dSeq, dSet, dPar, dPar3, dAsg, dExpr, dAnd, dOr, dNot, bAnd, bOr, bNot, dTru, dCB, dCons, dNil, dTup, dLst, dChain, dPass, fCmpI, fIsN, gTp, gsCons, gsNil, gNm, mkTup, dSl, dPart, dNoPart, lim, iLt, iLe, iGt, iGe, this]⟩) h.ins (by have := h.lin; unfold lim; omega)
  have al := fun S => all_t p.ins S
  have c := h.lin
  have d : ¬ (6 : Int) < (p.ins.length : Int) := by omega
  have r := e_rows h
  have o := fun S => e_is_hold (S := S) h.out.ok h.out.is
  simp [F_is_promise, d_is_promise, runF, startP, endOf, dRet, dRetN, dIf, dIfS, dB, dBin, dUn, dV, dC, sE, asB, dSeq, dSet, dPar, dPar3, dAsg, dExpr, dAnd, dOr, dNot, bAnd, bOr, bNot, dTru, dCB, dCons, dNil, dTup, dLst, dChain, dPass, fCmpI, fIsN, gTp, gsCons, gsNil, gNm, mkTup, dSl, dPart, dNoPart, lim, iLt, iLe, iGt, iGe, a, a1, b, b1, w_eq, n, l, al, truP, d, p0, p1, p2, p3, r, o]
theorem e_chk {p : Pr} (h : PrOk p) (S : Sto) : F_check_promise [ePr p] S = .ok .non S := by
  have := e_promise h
  simp [F_check_promise, d_check_promise, runF, startP, endOf, dRet, dRetN, dIf, dIfS, dB, dBin, dUn, dV, dC, sE, asB, dSeq, dSet, dPar, dPar3, dAsg, dExpr, dAnd, dOr, dNot, bAnd, bOr, bNot, dTru, dCB, dCons, dNil, dTup, dLst, dChain, dPass, fCmpI, fIsN, gTp, gsCons, gsNil, gNm, mkTup, dSl, dPart, dNoPart, lim, iLt, iLe, iGt, iGe, this, truP]
theorem e_both {p q : Pr} (h : PrOk p) (k : PrOk q) (S : Sto) : F_check_both [ePr p, ePr q] S = .ok .non S := by
  have a := e_chk h
  have b := e_chk k
  simp [F_check_both, d_check_both, runF, startP, endOf, dRet, dRetN, dIf, dIfS, dB, dBin, dUn, dV, dC, sE, asB, dSeq, dSet, dPar, dPar3, dAsg, dExpr, dAnd, dOr, dNot, bAnd, bOr, bNot, dTru, dCB, dCons, dNil, dTup, dLst, dChain, dPass, fCmpI, fIsN, gTp, gsCons, gsNil, gNm, mkTup, dSl, dPart, dNoPart, lim, iLt, iLe, iGt, iGe, a, b]
/-! ### covers -/
def covB (a b : Hd) : Bool := decide (a.lo ≤ b.lo) && (decide (b.hi ≤ a.hi) && decide (b.off ≤ a.off))
theorem e_raw_coversB {a b : Hd} {S : Sto} (oa : HOk a) (ob : HOk b) : F_raw_covers [eH a, eH b] S = .ok (.bl (covB a b)) S := by
  have l1 := fun S => e_raw_at_most (S := S) oa.lo ob.lo
  have l2 := fun S => e_raw_at_most (S := S) ob.hi oa.hi
  have l3 := fun S => e_raw_at_most (S := S) ob.off oa.off
  unfold covB
  by_cases c1 : a.lo ≤ b.lo <;> by_cases c2 : b.hi ≤ a.hi <;>
    simp [F_raw_covers, d_raw_covers, runF, startP, endOf, dRet, dRetN, dIf, dIfS, dB, dBin, dUn, dV, dC, sE, asB, dSeq, dSet, dPar, dPar3, dAsg, dExpr, dAnd, dOr, dNot, bAnd, bOr, bNot, dTru, dCB, dCons, dNil, dTup, dLst, dChain, dPass, fCmpI, fIsN, gTp, gsCons, gsNil, gNm, mkTup, dSl, dPart, dNoPart, lim, iLt, iLe, iGt, iGe, ix_h0, ix_h1, ix_h2, l1, l2, l3, c1, c2, truP]
theorem e_coversB {a b : Hd} {S : Sto} (ha : HG a) (hb : HG b) : F_covers [eH a, eH b] S = .ok (.bl (covB a b)) S := by
  simp [F_covers, d_covers, runF, startP, endOf, dRet, dRetN, dIf, dIfS, dB, dBin, dUn, dV, dC, sE, asB, dSeq, dSet, dPar, dPar3, dAsg, dExpr, dAnd, dOr, dNot, bAnd, bOr, bNot, dTru, dCB, dCons, dNil, dTup, dLst, dChain, dPass, fCmpI, fIsN, gTp, gsCons, gsNil, gNm, mkTup, dSl, dPart, dNoPart, lim, iLt, iLe, iGt, iGe, e_chk_hold ha.ok ha.is, e_chk_hold hb.ok hb.is, e_raw_coversB ha.ok hb.ok]
theorem l_lcov {a b : Hd} {S : Sto} (oa : HOk a) (ob : HOk b) : F_law_covers_L [eH a, eH b] S = .ok (.bl (covB a b)) S := by
  have m1 := fun S => mul_sm (S := S) (sm_n oa.lo) (sm_d ob.lo)
  have m2 := fun S => mul_sm (S := S) (sm_n ob.lo) (sm_d oa.lo)
  have m3 := fun S => mul_sm (S := S) (sm_n oa.hi) (sm_d ob.hi)
  have m4 := fun S => mul_sm (S := S) (sm_n ob.hi) (sm_d oa.hi)
  have m5 := fun S => mul_sm (S := S) (sm_n oa.off) (sm_d ob.off)
  have m6 := fun S => mul_sm (S := S) (sm_n ob.off) (sm_d oa.off)
  have e1 : decide (a.lo.num * (b.lo.den : Int) ≤ b.lo.num * (a.lo.den : Int)) = decide (a.lo ≤ b.lo) := decide_eq_decide.mpr le_iff
  have e2 : decide (b.hi.num * (a.hi.den : Int) ≤ a.hi.num * (b.hi.den : Int)) = decide (b.hi ≤ a.hi) := decide_eq_decide.mpr le_iff
  have e3 : decide (b.off.num * (a.off.den : Int) ≤ a.off.num * (b.off.den : Int)) = decide (b.off ≤ a.off) := decide_eq_decide.mpr le_iff
  unfold covB
  cases c1 : decide (a.lo ≤ b.lo) <;> cases c2 : decide (b.hi ≤ a.hi) <;> rw [c1] at e1 <;> rw [c2] at e2 <;>
    simp [F_law_covers_L, d_law_covers_L, runF, startP, endOf, dRet, dRetN, dIf, dIfS, dB, dBin, dUn, dV, dC, sE, asB, dSeq, dSet, dPar, dPar3, dAsg, dExpr, dAnd, dOr, dNot, bAnd, bOr, bNot, dTru, dCB, dCons, dNil, dTup, dLst, dChain, dPass, fCmpI, fIsN, gTp, gsCons, gsNil, gNm, mkTup, dSl, dPart, dNoPart, lim, iLt, iLe, iGt, iGe, ix_h0, ix_h1, ix_h2, ix_q0, ix_q1, m1, m2, m3, m4, m5, m6, ge_iff_le, e1, e2, e3, truP]
/-! ### the first that is not covered -/
def firstBad : List (Hd × Hd) → Nat → Option Nat
  | [], _ => none
  | (a, b) :: r, i => if covB a b = true then firstBad r (i + 1) else some i
def pairs (p q : Pr) : List (Hd × Hd) := p.ins.zip q.ins
def rpairs (p q : Pr) : List ((Int × Hd) × (Int × Hd)) := p.rows.zip q.rows
def alike (p q : Pr) : Bool := decide (p.ins.length = q.ins.length) && decide (p.rows.map (·.1) = q.rows.map (·.1))
def shown (p q : Pr) : PV := if alike p q = true then
    (match firstBad (pairs p q) 0 with
    | some i => .tup [.str "ins", .int (i : Nat)]
    | none => match firstBad ((rpairs p q).map fun r => (r.1.2, r.2.2)) 0 with
      | some j => .tup [.str "rows", .int (j : Nat)]
      | none => if covB q.out p.out = true then .tup [.str "backs"] else .tup [.str "out"])
  else .tup [.str "unlike"]
end G72
end
section
set_option Elab.async false
set_option linter.all false
set_option maxRecDepth 100000
set_option maxHeartbeats 4000000
namespace G72
open PySem PySem.Spec PyProof.Rows L2 Mi Ra
/-! ### == of promises' parts -/
instance : DecidableEq Hd := fun a b => decidable_of_iff (a.lo = b.lo ∧ a.hi = b.hi ∧ a.off = b.off) ⟨fun ⟨h1, h2, h3⟩ => by cases a; cases b; cases h1; cases h2; cases h3; rfl, fun h => by cases h; exact ⟨rfl, rfl, rfl⟩⟩
def dH (h : Hd) : PyData := d3 h.lo h.hi h.off
def dR (r : Int × Hd) : PyData := .tuple [.int r.1, dH r.2]
theorem toDL_map {α : Type} {e : α → PV} {d : α → PyData} (h : ∀ x, toD (e x) = some (d x)) : ∀ xs : List α, toDL (xs.map e) = some (xs.map d)
  | [] => rfl
  | x :: xs => by
    rw [List.map_cons, toDL, h x, toDL_map h xs]
    rfl
theorem toD_h (h : Hd) : toD (eH h) = some (dH h) := rfl
theorem toD_r (r : Int × Hd) : toD (eRow r) = some (dR r) := rfl
theorem toD_ins (xs : List Hd) : toD (.tup (xs.map eH)) = some (.tuple (xs.map dH)) := by rw [toD, toDL_map toD_h]; rfl
theorem toD_rows (xs : List (Int × Hd)) : toD (.tup (xs.map eRow)) = some (.tuple (xs.map dR)) := by rw [toD, toDL_map toD_r]; rfl
theorem eqv_h (x y : Hd) : PyData.eqv (dH x) (dH y) = decide (x = y) := by
  obtain ⟨a, b, c⟩ := x
  obtain ⟨a', b', c'⟩ := y
  show PyData.eqv (d3 a b c) (d3 a' b' c') = _
  rw [eqv_3]
  by_cases h1 : a = a' <;> by_cases h2 : b = b' <;> by_cases h3 : c = c' <;> simp [h1, h2, h3]
theorem eqv_r (x y : Int × Hd) : PyData.eqv (dR x) (dR y) = decide (x = y) := by
  obtain ⟨a, b⟩ := x
  obtain ⟨a', b'⟩ := y
  by_cases h1 : a = a' <;> by_cases h2 : b = b' <;> simp [dR, PyData.eqv, PyData.eqvAll, eqv_h, h1, h2]
theorem eqvAll_map {α : Type} [DecidableEq α] {d : α → PyData} (h : ∀ x y, PyData.eqv (d x) (d y) = decide (x = y)) : ∀ xs ys : List α, PyData.eqvAll (xs.map d) (ys.map d) = decide (xs = ys)
  | [], [] => by simp [PyData.eqvAll]
  | [], y :: ys => by simp [PyData.eqvAll]
  | x :: xs, [] => by simp [PyData.eqvAll]
  | x :: xs, y :: ys => by
    rw [List.map_cons, List.map_cons, PyData.eqvAll, h, eqvAll_map h xs ys]
    by_cases h1 : x = y <;> by_cases h2 : xs = ys <;> simp [h1, h2]
theorem eqv_int (x y : Int) : PyData.eqv (.int x) (.int y) = decide (x = y) := by
  by_cases h : x = y <;> simp [PyData.eqv, h]
theorem lay_map {α : Type} {d : α → PyData} (h : ∀ x, (d x).canLay0 = true) : ∀ xs : List α, PyData.canLayAll0 (xs.map d) = true
  | [] => rfl
  | x :: xs => by rw [List.map_cons, PyData.canLayAll0, h x, lay_map h xs]; rfl
theorem dep_map {α : Type} {d : α → PyData} {n : Nat} (h : ∀ x, (d x).depth ≤ n) : ∀ xs : List α, PyData.depthAll (xs.map d) ≤ n
  | [] => Nat.zero_le _
  | x :: xs => by
    rw [List.map_cons, PyData.depthAll]
    have a := h x
    have b := dep_map h xs
    omega
theorem lay_h (h : Hd) : (dH h).canLay0 = true := by simp [dH, d3, dQ, PyData.canLay0, PyData.canLayAll0]
theorem dep_h (h : Hd) : (dH h).depth ≤ 2 := by simp [dH, d3, dQ, PyData.depth, PyData.depthAll]
theorem lay_r (r : Int × Hd) : (dR r).canLay0 = true := by simp [dR, PyData.canLay0, PyData.canLayAll0, lay_h]
theorem dep_r (r : Int × Hd) : (dR r).depth ≤ 3 := by have := dep_h r.2; simp [dR, PyData.depth, PyData.depthAll]; omega
theorem shp_l {α : Type} {d : α → PyData} {n : Nat} (h1 : ∀ x, (d x).canLay0 = true) (h2 : ∀ x, (d x).depth ≤ n) (hn : n ≤ 60) (xs : List α) : SeqAt.shaped (.list (xs.map d)) = true := by
  have := dep_map h2 xs
  unfold SeqAt.shaped
  rw [PyData.canLay0, lay_map h1, PyData.depth]
  simp
  omega
theorem shp_tail (i : List Hd) (r : List (Int × Hd)) (o : Hd) : SeqAt.shaped (.tuple [.tuple (i.map dH), .tuple (r.map dR), dH o]) = true := by
  have a := dep_map dep_h i
  have b := dep_map dep_r r
  have c := dep_h o
  unfold SeqAt.shaped
  simp [PyData.canLay0, PyData.canLayAll0, lay_map lay_h, lay_map lay_r, lay_h, PyData.depth, PyData.depthAll]
  omega
theorem eq_dat {x y : PV} {d e : PyData} {neg : Bool} {S : Sto} (h1 : toDS x S = some d) (h2 : toDS y S = some e) (h3 : SeqAt.shaped d = true) (h4 : SeqAt.shaped e = true) : fEq neg x y S = .ok (.bl (if neg = true then !PyData.eqv d e else PyData.eqv d e)) S := by
  unfold fEq
  rw [h1, h2]
  simp [h3, h4]
/-- the tails of two promises -/
theorem eq_tail {i i' : List Hd} {r r' : List (Int × Hd)} {o o' : Hd} (S : Sto) : fEq false (.tup [.tup (i.map eH), .tup (r.map eRow), eH o]) (.tup [.tup (i'.map eH), .tup (r'.map eRow), eH o']) S = .ok (.bl (decide (i = i' ∧ r = r' ∧ o = o'))) S := by
  have t : ∀ (i : List Hd) (r : List (Int × Hd)) (o : Hd), toDS (.tup [.tup (i.map eH), .tup (r.map eRow), eH o]) S = some (.tuple [.tuple (i.map dH), .tuple (r.map dR), dH o]) := fun i r o => by
    show toD _ = _
    rw [toD]
    simp [toDL, toD_ins, toD_rows, toD_h]
  rw [eq_dat (t _ _ _) (t _ _ _) (shp_tail _ _ _) (shp_tail _ _ _)]
  by_cases h1 : i = i' <;> by_cases h2 : r = r' <;> by_cases h3 : o = o' <;> simp [PyData.eqv, PyData.eqvAll, eqv_h, eqvAll_map eqv_h, eqvAll_map eqv_r, h1, h2, h3]
def heads (rs : List (Int × Hd)) : List Int := rs.map fun r => r.1
theorem e_heads {di : EnP → Sto → Res (List PV)} {ρ : EnP} {rs : List (Int × Hd)} {S : Sto} (hi : di ρ S = .ok (rs.map eRow) S) (hρ : ∃ a b r, ρ = a :: b :: none :: r) (hl : rs.length ≤ lim) : dLc false di (cNm 2) (dYes) (dBin fIx (dV 2) (dC (.int 0))) [2] ρ S = .ok (.nl (rs.map fun r => .int r.1)) S := by
  obtain ⟨a, b, r, rfl⟩ := hρ
  refine dLc_map (α := Int × Hd) eRow (fun r => PV.int r.1) (fun _ => True) hi (fun x _ => ⟨_, rfl, fun S => ?_⟩) (fun _ _ => trivial) hl
  rfl
theorem eq_heads {neg : Bool} {xs ys : List (Int × Hd)} {S : Sto} : fEq neg (.nl (xs.map fun r => .int r.1)) (.nl (ys.map fun r => .int r.1)) S = .ok (.bl (if neg = true then !decide (heads xs = heads ys) else decide (heads xs = heads ys))) S := by
  have t : ∀ zs : List (Int × Hd), toDS (.nl (zs.map fun r => .int r.1)) S = some (.list ((heads zs).map PyData.int)) := fun zs => by
    show toD _ = _
    rw [toD, toDL_map (d := fun r : Int × Hd => PyData.int r.1) (fun r => rfl)]
    unfold heads
    rw [List.map_map]
    rfl
  have s : ∀ zs : List Int, SeqAt.shaped (.list (zs.map PyData.int)) = true := fun zs => shp_l (n := 0) (fun _ => rfl) (fun _ => Nat.le_refl _) (by decide) zs
  rw [eq_dat (t xs) (t ys) (s _) (s _)]
  have q : PyData.eqv (.list ((heads xs).map PyData.int)) (.list ((heads ys).map PyData.int)) = decide (heads xs = heads ys) := by
    rw [PyData.eqv]
    exact eqvAll_map eqv_int _ _
  rw [q]
theorem len_I (p : Pr) (S : Sto) : fLen [eI p] S = .ok (.int (p.ins.length : Int)) S := by
  show Res.ok (PV.int (((p.ins.map eH).length : Nat) : Int)) S = _
  rw [List.length_map]
/-! ### enumerate(zip(..)) -/
def enL {α : Type} (f : α → PV) (l : List (α × α)) (k : Nat) : List PV := (l.zipIdx k).map fun p => .tup [.int (p.2 : Nat), .tup [f p.1.1, f p.1.2]]
theorem enL_cons {α : Type} (f : α → PV) (a b : α) (l : List (α × α)) (k : Nat) : enL f ((a, b) :: l) k = .tup [.int (k : Nat), .tup [f a, f b]] :: enL f l (k + 1) := rfl
theorem enumP_map {α : Type} (f : α → PV) (xs ys : List α) : enumP (xs.map f) (ys.map f) = enL f (xs.zip ys) 0 := by
  have g : ∀ (xs ys : List α) (k : Nat), (((xs.map f).zip (ys.map f)).zipIdx k).map (fun p => PV.tup [.int (p.2 : Nat), .tup [p.1.1, p.1.2]]) = enL f (xs.zip ys) k := by
    intro xs
    induction xs with
    | nil => intro ys k; rfl
    | cons x xs ih =>
      intro ys k
      cases ys with
      | nil => rfl
      | cons y ys =>
        rw [List.zip_cons_cons, enL_cons, ← ih ys (k + 1)]
        rfl
  exact g xs ys 0
/-! ### raw_shown -/
def sG1 : DG := (gTp 2 (gsCons (gNm 2) (gsCons (gTp 2 (gsCons (gNm 3) (gsCons (gNm 4) (gsNil)))) (gsNil))))
def sB1 : EnP → Sto → SR := (dIfS (bNot (dTru (dCB F_raw_covers (dCons (dV 3) (dCons (dV 4) (dNil)))))) (dRet (dTup (dCons (dC (.str c_INS)) (dCons (dV 2) (dNil))))) (dPass))
def sG2 : DG := (gTp 2 (gsCons (gNm 5) (gsCons (gTp 2 (gsCons (gNm 3) (gsCons (gNm 4) (gsNil)))) (gsNil))))
def sB2 : EnP → Sto → SR := (dIfS (bNot (dTru (dCB F_raw_covers (dCons (dBin fIx (dV 3) (dC (.int 1))) (dCons (dBin fIx (dV 4) (dC (.int 1))) (dNil)))))) (dRet (dTup (dCons (dC (.str c_ROWS)) (dCons (dV 5) (dNil))))) (dPass))
theorem sh_1 {e w a5 : Option PV} {S : Sto} : ∀ (l : List (Hd × Hd)) (k : Nat) (a2 a3 a4 : Option PV), (∀ p ∈ l, HOk p.1 ∧ HOk p.2) → ∃ b2 b3 b4, forP sG1 sB1 (enL eH l k) [e, w, a2, a3, a4, a5] S =
    (match firstBad l k with | none => .nx [e, w, b2, b3, b4, a5] S | some i => .rt (.tup [.str "ins", .int (i : Nat)]) S)
  | [], k, a2, a3, a4, _ => ⟨a2, a3, a4, rfl⟩
  | (a, b) :: l, k, a2, a3, a4, h => by
    obtain ⟨ha, hb⟩ := h (a, b) List.mem_cons_self
    obtain ⟨b2, b3, b4, ih⟩ := sh_1 (e := e) (w := w) (a5 := a5) (S := S) l (k + 1) (some (.int (k : Nat))) (some (eH a)) (some (eH b)) fun p hp => h p (List.mem_cons_of_mem _ hp)
    have g : sG1 (.tup [.int (k : Nat), .tup [eH a, eH b]]) [e, w, a2, a3, a4, a5] S = .ok [e, w, some (.int (k : Nat)), some (eH a), some (eH b), a5] S := rfl
    have c := fun S => e_raw_coversB (S := S) ha hb
    rw [enL_cons, forP, g]
    simp only [sE, firstBad]
    cases cb : covB a b with
    | true =>
      have st : sB1 [e, w, some (.int (k : Nat)), some (eH a), some (eH b), a5] S = .nx [e, w, some (.int (k : Nat)), some (eH a), some (eH b), a5] S := by simp [sB1, runF, startP, endOf, dRet, dRetN, dIf, dIfS, dB, dBin, dUn, dV, dC, sE, asB, dSeq, dSet, dPar, dPar3, dAsg, dExpr, dAnd, dOr, dNot, bAnd, bOr, bNot, dTru, dCB, dCons, dNil, dTup, dLst, dChain, dPass, fCmpI, fIsN, gTp, gsCons, gsNil, gNm, mkTup, dSl, dPart, dNoPart, lim, iLt, iLe, iGt, iGe, c, cb, truP]
      rw [st]
      exact ⟨b2, b3, b4, ih⟩
    | false =>
      have st : sB1 [e, w, some (.int (k : Nat)), some (eH a), some (eH b), a5] S = .rt (.tup [.str "ins", .int (k : Nat)]) S := by simp [sB1, runF, startP, endOf, dRet, dRetN, dIf, dIfS, dB, dBin, dUn, dV, dC, sE, asB, dSeq, dSet, dPar, dPar3, dAsg, dExpr, dAnd, dOr, dNot, bAnd, bOr, bNot, dTru, dCB, dCons, dNil, dTup, dLst, dChain, dPass, fCmpI, fIsN, gTp, gsCons, gsNil, gNm, mkTup, dSl, dPart, dNoPart, lim, iLt, iLe, iGt, iGe, c, cb, truP]
      rw [st]
      exact ⟨none, none, none, rfl⟩
theorem sh_2 {e w a2 : Option PV} {S : Sto} : ∀ (l : List ((Int × Hd) × (Int × Hd))) (k : Nat) (a3 a4 a5 : Option PV), (∀ p ∈ l, HOk p.1.2 ∧ HOk p.2.2) → ∃ b3 b4 b5, forP sG2 sB2 (enL eRow l k) [e, w, a2, a3, a4, a5] S =
    (match firstBad (l.map fun r => (r.1.2, r.2.2)) k with | none => .nx [e, w, a2, b3, b4, b5] S | some i => .rt (.tup [.str "rows", .int (i : Nat)]) S)
  | [], k, a3, a4, a5, _ => ⟨a3, a4, a5, rfl⟩
  | (a, b) :: l, k, a3, a4, a5, h => by
    obtain ⟨ha, hb⟩ := h (a, b) List.mem_cons_self
    obtain ⟨b3, b4, b5, ih⟩ := sh_2 (e := e) (w := w) (a2 := a2) (S := S) l (k + 1) (some (eRow a)) (some (eRow b)) (some (.int (k : Nat))) fun p hp => h p (List.mem_cons_of_mem _ hp)
    have g : sG2 (.tup [.int (k : Nat), .tup [eRow a, eRow b]]) [e, w, a2, a3, a4, a5] S = .ok [e, w, a2, some (eRow a), some (eRow b), some (.int (k : Nat))] S := rfl
    have c := fun S => e_raw_coversB (S := S) ha hb
    rw [enL_cons, forP, g]
    simp only [sE, firstBad, List.map_cons]
    cases cb : covB a.2 b.2 with
    | true =>
      have st : sB2 [e, w, a2, some (eRow a), some (eRow b), some (.int (k : Nat))] S = .nx [e, w, a2, some (eRow a), some (eRow b), some (.int (k : Nat))] S := by simp [sB2, runF, startP, endOf, dRet, dRetN, dIf, dIfS, dB, dBin, dUn, dV, dC, sE, asB, dSeq, dSet, dPar, dPar3, dAsg, dExpr, dAnd, dOr, dNot, bAnd, bOr, bNot, dTru, dCB, dCons, dNil, dTup, dLst, dChain, dPass, fCmpI, fIsN, gTp, gsCons, gsNil, gNm, mkTup, dSl, dPart, dNoPart, lim, iLt, iLe, iGt, iGe, c, cb, truP, ix_r1]
      rw [st]
      exact ⟨b3, b4, b5, ih⟩
    | false =>
      have st : sB2 [e, w, a2, some (eRow a), some (eRow b), some (.int (k : Nat))] S = .rt (.tup [.str "rows", .int (k : Nat)]) S := by simp [sB2, runF, startP, endOf, dRet, dRetN, dIf, dIfS, dB, dBin, dUn, dV, dC, sE, asB, dSeq, dSet, dPar, dPar3, dAsg, dExpr, dAnd, dOr, dNot, bAnd, bOr, bNot, dTru, dCB, dCons, dNil, dTup, dLst, dChain, dPass, fCmpI, fIsN, gTp, gsCons, gsNil, gNm, mkTup, dSl, dPart, dNoPart, lim, iLt, iLe, iGt, iGe, c, cb, truP, ix_r1]
      rw [st]
      exact ⟨none, none, none, rfl⟩
theorem PrOk.pairs {p q : Pr} (h : PrOk p) (k : PrOk q) : ∀ x ∈ pairs p q, HOk x.1 ∧ HOk x.2 := fun x hx => by
  have := List.of_mem_zip (show (x.1, x.2) ∈ p.ins.zip q.ins from hx)
  exact ⟨(h.ins _ this.1).ok, (k.ins _ this.2).ok⟩
theorem PrOk.rpairs {p q : Pr} (h : PrOk p) (k : PrOk q) : ∀ x ∈ rpairs p q, HOk x.1.2 ∧ HOk x.2.2 := fun x hx => by
  have := List.of_mem_zip (show (x.1, x.2) ∈ p.rows.zip q.rows from hx)
  exact ⟨(h.rows _ this.1).h.ok, (k.rows _ this.2).h.ok⟩
theorem e_alike {p q : Pr} (h : PrOk p) (k : PrOk q) (S : Sto) : F_are_alike [ePr p, ePr q] S = .ok (.bl (alike p q)) S := by
  have l1 := len_I p
  have l2 := len_I q
  have h1 := fun S => e_heads (di := iSeq (dBin fIx (dV 0) (dC (.int 2)))) (ρ := [some (ePr p), some (ePr q), none]) (S := S) (rs := p.rows) rfl ⟨_, _, _, rfl⟩ (by have := h.lrow; unfold lim; omega)
  have h2 := fun S => e_heads (di := iSeq (dBin fIx (dV 1) (dC (.int 2)))) (ρ := [some (ePr p), some (ePr q), none]) (S := S) (rs := q.rows) rfl ⟨_, _, _, rfl⟩ (by have := k.lrow; unfold lim; omega)
  have hq := fun S => eq_heads (neg := false) (xs := p.rows) (ys := q.rows) (S := S)
  generalize hx1 : (PV.nl (p.rows.map fun r => .int r.1)) = X1 at h1 hq
  generalize hx2 : (PV.nl (q.rows.map fun r => .int r.1)) = X2 at h2 hq
  have e : decide (p.rows.map (·.1) = q.rows.map (·.1)) = decide (heads p.rows = heads q.rows) := rfl
  unfold alike
  rw [e]
  by_cases c : p.ins.length = q.ins.length
  · have c' : ((p.ins.length : Int) == (q.ins.length : Int)) = true := by simp [c]
    simp [F_are_alike, d_are_alike, runF, startP, endOf, dRet, dRetN, dIf, dIfS, dB, dBin, dUn, dV, dC, sE, asB, dSeq, dSet, dPar, dPar3, dAsg, dExpr, dAnd, dOr, dNot, bAnd, bOr, bNot, dTru, dCB, dCons, dNil, dTup, dLst, dChain, dPass, fCmpI, fIsN, gTp, gsCons, gsNil, gNm, mkTup, dSl, dPart, dNoPart, lim, iLt, iLe, iGt, iGe, p1, p2, l1, l2, w_eq, h1, h2, hq, c, truP]
  · have c2 : ((p.ins.length : Int) == (q.ins.length : Int)) = false := beq_eq_false_iff_ne.mpr (by omega)
    have w : ∀ S, fEq false (.int (p.ins.length : Int)) (.int (q.ins.length : Int)) S = .ok (.bl false) S := fun S => by rw [w_eq, c2]; rfl
    simp [F_are_alike, d_are_alike, runF, startP, endOf, dRet, dRetN, dIf, dIfS, dB, dBin, dUn, dV, dC, sE, asB, dSeq, dSet, dPar, dPar3, dAsg, dExpr, dAnd, dOr, dNot, bAnd, bOr, bNot, dTru, dCB, dCons, dNil, dTup, dLst, dChain, dPass, fCmpI, fIsN, gTp, gsCons, gsNil, gNm, mkTup, dSl, dPart, dNoPart, lim, iLt, iLe, iGt, iGe, p1, p2, l1, l2, w, h1, h2, hq, c, truP]
theorem e_raw_shown {p q : Pr} (h : PrOk p) (k : PrOk q) (S : Sto) : F_raw_shown [ePr p, ePr q] S = .ok (shown p q) S := by
  have al := e_alike h k
  obtain ⟨b2, b3, b4, l1⟩ := sh_1 (e := some (ePr p)) (w := some (ePr q)) (a5 := none) (S := S) (pairs p q) 0 none none none (h.pairs k)
  obtain ⟨c3, c4, c5, l2⟩ := sh_2 (e := some (ePr p)) (w := some (ePr q)) (a2 := b2) (S := S) (rpairs p q) 0 b3 b4 none (h.rpairs k)
  have i1 : iEnZ (dCons (dBin fIx (dV 0) (dC (.int 1))) (dCons (dBin fIx (dV 1) (dC (.int 1))) (dNil))) [some (ePr p), some (ePr q), none, none, none, none] S = .ok (enL eH (pairs p q) 0) S := by
    show Res.ok (enumP (p.ins.map eH) (q.ins.map eH)) S = _
    rw [enumP_map]; rfl
  have i2 : ∀ a2 a3 a4 a5, iEnZ (dCons (dBin fIx (dV 0) (dC (.int 2))) (dCons (dBin fIx (dV 1) (dC (.int 2))) (dNil))) [some (ePr p), some (ePr q), a2, a3, a4, a5] S = .ok (enL eRow (rpairs p q) 0) S := fun _ _ _ _ => by
    show Res.ok (enumP (p.rows.map eRow) (q.rows.map eRow)) S = _
    rw [enumP_map]; rfl
  have o := fun S => e_raw_coversB (S := S) k.out.ok h.out.ok
  have dd : d_raw_shown = dSeq (dIfS (bNot (dTru (dCB F_are_alike (dCons (dV 0) (dCons (dV 1) (dNil)))))) (dRet (dTup (dCons (dC (.str c_UNLIKE_WORD)) (dNil)))) (dPass)) (dSeq (dFor (iEnZ (dCons (dBin fIx (dV 0) (dC (.int 1))) (dCons (dBin fIx (dV 1) (dC (.int 1))) (dNil)))) sG1 sB1) (dSeq (dFor (iEnZ (dCons (dBin fIx (dV 0) (dC (.int 2))) (dCons (dBin fIx (dV 1) (dC (.int 2))) (dNil)))) sG2 sB2) (dRet (dIf (dTru (dCB F_raw_covers (dCons (dBin fIx (dV 1) (dC (.int 3))) (dCons (dBin fIx (dV 0) (dC (.int 3))) (dNil))))) (dTup (dCons (dC (.str c_BACKS)) (dNil))) (dTup (dCons (dC (.str c_OUT)) (dNil))))))) := rfl
  have e0 : F_raw_shown [ePr p, ePr q] S = endOf (d_raw_shown [some (ePr p), some (ePr q), none, none, none, none] S) := rfl
  rw [e0, dd]
  unfold shown
  cases ca : alike p q with
  | false => simp [runF, startP, endOf, dRet, dRetN, dIf, dIfS, dB, dBin, dUn, dV, dC, sE, asB, dSeq, dSet, dPar, dPar3, dAsg, dExpr, dAnd, dOr, dNot, bAnd, bOr, bNot, dTru, dCB, dCons, dNil, dTup, dLst, dChain, dPass, fCmpI, fIsN, gTp, gsCons, gsNil, gNm, mkTup, dSl, dPart, dNoPart, lim, iLt, iLe, iGt, iGe, al, ca, truP]
  | true =>
    have s0 : (dIfS (bNot (dTru (dCB F_are_alike (dCons (dV 0) (dCons (dV 1) (dNil)))))) (dRet (dTup (dCons (dC (.str c_UNLIKE_WORD)) (dNil)))) (dPass)) [some (ePr p), some (ePr q), none, none, none, none] S = .nx [some (ePr p), some (ePr q), none, none, none, none] S := by simp [runF, startP, endOf, dRet, dRetN, dIf, dIfS, dB, dBin, dUn, dV, dC, sE, asB, dSeq, dSet, dPar, dPar3, dAsg, dExpr, dAnd, dOr, dNot, bAnd, bOr, bNot, dTru, dCB, dCons, dNil, dTup, dLst, dChain, dPass, fCmpI, fIsN, gTp, gsCons, gsNil, gNm, mkTup, dSl, dPart, dNoPart, lim, iLt, iLe, iGt, iGe, al, ca, truP]
    simp only [dSeq, s0, dFor, i1, sE, l1]
    cases f1 : firstBad (pairs p q) 0 with
    | some i => rfl
    | none =>
      simp only [i2, sE, l2]
      cases f2 : firstBad ((rpairs p q).map fun r => (r.1.2, r.2.2)) 0 with
      | some i => rfl
      | none => cases co : covB q.out p.out <;> simp [runF, startP, endOf, dRet, dRetN, dIf, dIfS, dB, dBin, dUn, dV, dC, sE, asB, dSeq, dSet, dPar, dPar3, dAsg, dExpr, dAnd, dOr, dNot, bAnd, bOr, bNot, dTru, dCB, dCons, dNil, dTup, dLst, dChain, dPass, fCmpI, fIsN, gTp, gsCons, gsNil, gNm, mkTup, dSl, dPart, dNoPart, lim, iLt, iLe, iGt, iGe, p3, o, co, truP]
theorem e_shown {p q : Pr} (h : PrOk p) (k : PrOk q) (S : Sto) : F_backing_shown [ePr p, ePr q] S = .ok (shown p q) S := by
  have b := e_both h k
  have r := e_raw_shown h k
  simp [F_backing_shown, d_backing_shown, runF, startP, endOf, dRet, dRetN, dIf, dIfS, dB, dBin, dUn, dV, dC, sE, asB, dSeq, dSet, dPar, dPar3, dAsg, dExpr, dAnd, dOr, dNot, bAnd, bOr, bNot, dTru, dCB, dCons, dNil, dTup, dLst, dChain, dPass, fCmpI, fIsN, gTp, gsCons, gsNil, gNm, mkTup, dSl, dPart, dNoPart, lim, iLt, iLe, iGt, iGe, b, r]
end G72
end
section
set_option Elab.async false
set_option linter.all false
set_option maxRecDepth 100000
set_option maxHeartbeats 4000000
namespace G72
open PySem PySem.Spec PyProof.Rows L2 Mi Ra
theorem zip_map {α β : Type} (e1 : α → PV) (e2 : β → PV) : ∀ (xs : List α) (ys : List β), zipP (xs.map e1) (ys.map e2) = (xs.zip ys).map fun p => PV.tup [e1 p.1, e2 p.2]
  | [], _ => rfl
  | _ :: _, [] => rfl
  | x :: xs, y :: ys => by
    have ih := zip_map e1 e2 xs ys
    unfold zipP at ih ⊢
    simp only [List.map_cons, List.zip_cons_cons, ih]
theorem lc_zip {α β : Type} {e1 : α → PV} {e2 : β → PV} {di : EnP → Sto → Res (List PV)} {i j : Nat} {de : EnP → Sto → Res PV} {ρ : EnP} {xs : List α} {ys : List β} {S : Sto} (g : α × β → PV) (P : α × β → Prop) (hi : di ρ S = .ok (zipP (xs.map e1) (ys.map e2)) S)
    (h : ∀ x y, P (x, y) → ∀ S, de (((wipeP ρ [i, j]).set i (some (e1 x))).set j (some (e2 y))) S = .ok (g (x, y)) S) (hP : ∀ z ∈ xs.zip ys, P z) (hl : xs.length ≤ lim) :
    dLc false di (cTup 2 (cCons (cNm i) (cCons (cNm j) cNil))) (dYes) de [i, j] ρ S = .ok (.nl ((xs.zip ys).map g)) S := by
  rw [zip_map] at hi
  refine dLc_map (fun p : α × β => PV.tup [e1 p.1, e2 p.2]) g P hi (fun z hz => ⟨_, rfl, fun S => h z.1 z.2 hz S⟩) hP ?_
  rw [List.length_zip]
  omega
def backsB (p q : Pr) : Bool := alike p q && ((pairs p q).all (fun z => covB z.1 z.2) && ((rpairs p q).all (fun z => covB z.1.2 z.2.2) && covB q.out p.out))
theorem lne (a b : Nat) (S : Sto) : fEq true (.int (a : Int)) (.int (b : Int)) S = .ok (.bl (!decide (a = b))) S := by
  rw [w_eq]
  by_cases h : a = b
  · subst h; simp
  · have : ((a : Int) == (b : Int)) = false := beq_eq_false_iff_ne.mpr (by omega)
    simp [this, h]
theorem e_raw_backs {p q : Pr} (h : PrOk p) (k : PrOk q) (S : Sto) : F_raw_backs [ePr p, ePr q] S = .ok (.bl (backsB p q)) S := by
  have l1 := len_I p
  have l2 := len_I q
  have h1 := fun S => e_heads (di := iSeq (dBin fIx (dV 0) (dC (.int 2)))) (ρ := [some (ePr p), some (ePr q), none, none, none]) (S := S) (rs := p.rows) rfl ⟨_, _, _, rfl⟩ (by have := h.lrow; unfold lim; omega)
  have h2 := fun S => e_heads (di := iSeq (dBin fIx (dV 1) (dC (.int 2)))) (ρ := [some (ePr p), some (ePr q), none, none, none]) (S := S) (rs := q.rows) rfl ⟨_, _, _, rfl⟩ (by have := k.lrow; unfold lim; omega)
  have hq := fun S => eq_heads (neg := true) (xs := p.rows) (ys := q.rows) (S := S)
  generalize hx1 : (PV.nl (p.rows.map fun r => .int r.1)) = X1 at h1 hq
  generalize hx2 : (PV.nl (q.rows.map fun r => .int r.1)) = X2 at h2 hq
  have z1 := lc_zip (e1 := eH) (e2 := eH) (di := iZip2 (dCons (dBin fIx (dV 0) (dC (.int 1))) (dCons (dBin fIx (dV 1) (dC (.int 1))) (dNil)))) (i := 3) (j := 4) (de := dCB F_raw_covers (dCons (dV 3) (dCons (dV 4) (dNil)))) (ρ := [some (ePr p), some (ePr q), none, none, none]) (xs := p.ins) (ys := q.ins) (S := S)
    (fun z => .bl (covB z.1 z.2)) (fun z => HOk z.1 ∧ HOk z.2) rfl (fun x y ⟨hx, hy⟩ S => by
      have c := fun S => e_raw_coversB (S := S) hx hy
      simp [runF, startP, endOf, dRet, dRetN, dIf, dIfS, dB, dBin, dUn, dV, dC, sE, asB, dSeq, dSet, dPar, dPar3, dAsg, dExpr, dAnd, dOr, dNot, bAnd, bOr, bNot, dTru, dCB, dCons, dNil, dTup, dLst, dChain, dPass, fCmpI, fIsN, gTp, gsCons, gsNil, gNm, mkTup, dSl, dPart, dNoPart, lim, iLt, iLe, iGt, iGe, wipeP, c]) (h.pairs k) (by have := h.lin; unfold lim; omega)
  have z2 := lc_zip (e1 := eRow) (e2 := eRow) (di := iZip2 (dCons (dBin fIx (dV 0) (dC (.int 2))) (dCons (dBin fIx (dV 1) (dC (.int 2))) (dNil)))) (i := 3) (j := 4) (de := dCB F_raw_covers (dCons (dBin fIx (dV 3) (dC (.int 1))) (dCons (dBin fIx (dV 4) (dC (.int 1))) (dNil)))) (ρ := [some (ePr p), some (ePr q), none, none, none]) (xs := p.rows) (ys := q.rows) (S := S)
    (fun z => .bl (covB z.1.2 z.2.2)) (fun z => HOk z.1.2 ∧ HOk z.2.2) rfl (fun x y ⟨hx, hy⟩ S => by
      have c := fun S => e_raw_coversB (S := S) hx hy
      simp [runF, startP, endOf, dRet, dRetN, dIf, dIfS, dB, dBin, dUn, dV, dC, sE, asB, dSeq, dSet, dPar, dPar3, dAsg, dExpr, dAnd, dOr, dNot, bAnd, bOr, bNot, dTru, dCB, dCons, dNil, dTup, dLst, dChain, dPass, fCmpI, fIsN, gTp, gsCons, gsNil, gNm, mkTup, dSl, dPart, dNoPart, lim, iLt, iLe, iGt, iGe, wipeP, c, ix_r1]) (h.rpairs k) (by have := h.lrow; unfold lim; omega)
  have a1 := fun S => all_map (fun z : Hd × Hd => covB z.1 z.2) (p.ins.zip q.ins) S
  have a2 := fun S => all_map (fun z : (Int × Hd) × (Int × Hd) => covB z.1.2 z.2.2) (p.rows.zip q.rows) S
  generalize hy1 : (PV.nl ((p.ins.zip q.ins).map fun z => .bl (covB z.1 z.2))) = Y1 at z1 a1
  generalize hy2 : (PV.nl ((p.rows.zip q.rows).map fun z => .bl (covB z.1.2 z.2.2))) = Y2 at z2 a2
  have o := fun S => e_raw_coversB (S := S) k.out.ok h.out.ok
  have e : decide (p.rows.map (·.1) = q.rows.map (·.1)) = decide (heads p.rows = heads q.rows) := rfl
  unfold backsB alike pairs rpairs
  rw [e]
  cases c1 : decide (p.ins.length = q.ins.length) <;> cases c2 : decide (heads p.rows = heads q.rows) <;> rw [c2] at hq <;>
    cases c3 : (p.ins.zip q.ins).all (fun z => covB z.1 z.2) <;> rw [c3] at a1 <;> cases c4 : (p.rows.zip q.rows).all (fun z => covB z.1.2 z.2.2) <;> rw [c4] at a2 <;>
    simp [F_raw_backs, d_raw_backs, runF, startP, endOf, dRet, dRetN, dIf, dIfS, dB, dBin, dUn, dV, dC, sE, asB, dSeq, dSet, dPar, dPar3, dAsg, dExpr, dAnd, dOr, dNot, bAnd, bOr, bNot, dTru, dCB, dCons, dNil, dTup, dLst, dChain, dPass, fCmpI, fIsN, gTp, gsCons, gsNil, gNm, mkTup, dSl, dPart, dNoPart, lim, iLt, iLe, iGt, iGe, p1, p2, p3, l1, l2, lne, h1, h2, hq, z1, z2, a1, a2, o, c1, truP]
theorem e_backs {p q : Pr} (h : PrOk p) (k : PrOk q) (S : Sto) : F_backs [ePr p, ePr q] S = .ok (.bl (backsB p q)) S := by
  have a := e_chk h
  have b := e_chk k
  have r := e_raw_backs h k
  simp [F_backs, d_backs, runF, startP, endOf, dRet, dRetN, dIf, dIfS, dB, dBin, dUn, dV, dC, sE, asB, dSeq, dSet, dPar, dPar3, dAsg, dExpr, dAnd, dOr, dNot, bAnd, bOr, bNot, dTru, dCB, dCons, dNil, dTup, dLst, dChain, dPass, fCmpI, fIsN, gTp, gsCons, gsNil, gNm, mkTup, dSl, dPart, dNoPart, lim, iLt, iLe, iGt, iGe, a, b, r]
/-! ### the law's own -/
def tG1 : DG := (gTp 2 (gsCons (gNm 3) (gsCons (gNm 4) (gsNil))))
def tB1 : EnP → Sto → SR := (dIfS (bNot (dTru (dCB F_law_covers_L (dCons (dBin fIx (dV 4) (dC (.int 0))) (dCons (dBin fIx (dV 4) (dC (.int 1))) (dNil)))))) (dRet (dTup (dCons (dC (.str ("ins" : Str))) (dCons (dV 3) (dNil))))) (dPass))
def tB2 : EnP → Sto → SR := (dIfS (bNot (dTru (dCB F_law_covers_L (dCons (dBin fIx (dBin fIx (dV 4) (dC (.int 0))) (dC (.int 1))) (dCons (dBin fIx (dBin fIx (dV 4) (dC (.int 1))) (dC (.int 1))) (dNil)))))) (dRet (dTup (dCons (dC (.str ("rows" : Str))) (dCons (dV 3) (dNil))))) (dPass))
theorem th_1 {e w a2 : Option PV} {S : Sto} : ∀ (l : List (Hd × Hd)) (k : Nat) (a3 a4 : Option PV), (∀ p ∈ l, HOk p.1 ∧ HOk p.2) → ∃ b3 b4, forP tG1 tB1 (enL eH l k) [e, w, a2, a3, a4] S =
    (match firstBad l k with | none => .nx [e, w, a2, b3, b4] S | some i => .rt (.tup [.str "ins", .int (i : Nat)]) S)
  | [], k, a3, a4, _ => ⟨a3, a4, rfl⟩
  | (a, b) :: l, k, a3, a4, h => by
    obtain ⟨ha, hb⟩ := h (a, b) List.mem_cons_self
    obtain ⟨b3, b4, ih⟩ := th_1 (e := e) (w := w) (a2 := a2) (S := S) l (k + 1) (some (.int (k : Nat))) (some (.tup [eH a, eH b])) fun p hp => h p (List.mem_cons_of_mem _ hp)
    have g : tG1 (.tup [.int (k : Nat), .tup [eH a, eH b]]) [e, w, a2, a3, a4] S = .ok [e, w, a2, some (.int (k : Nat)), some (.tup [eH a, eH b])] S := rfl
    have c := fun S => l_lcov (S := S) ha hb
    have x0 : ∀ S, fIx (.tup [eH a, eH b]) (.int 0) S = .ok (eH a) S := fun S => rfl
    have x1 : ∀ S, fIx (.tup [eH a, eH b]) (.int 1) S = .ok (eH b) S := fun S => rfl
    rw [enL_cons, forP, g]
    simp only [sE, firstBad]
    cases cb : covB a b with
    | true =>
      have st : tB1 [e, w, a2, some (.int (k : Nat)), some (.tup [eH a, eH b])] S = .nx [e, w, a2, some (.int (k : Nat)), some (.tup [eH a, eH b])] S := by simp [tB1, runF, startP, endOf, dRet, dRetN, dIf, dIfS, dB, dBin, dUn, dV, dC, sE, asB, dSeq, dSet, dPar, dPar3, dAsg, dExpr, dAnd, dOr, dNot, bAnd, bOr, bNot, dTru, dCB, dCons, dNil, dTup, dLst, dChain, dPass, fCmpI, fIsN, gTp, gsCons, gsNil, gNm, mkTup, dSl, dPart, dNoPart, lim, iLt, iLe, iGt, iGe, x0, x1, c, cb, truP]
      rw [st]
      exact ⟨b3, b4, ih⟩
    | false =>
      have st : tB1 [e, w, a2, some (.int (k : Nat)), some (.tup [eH a, eH b])] S = .rt (.tup [.str "ins", .int (k : Nat)]) S := by simp [tB1, runF, startP, endOf, dRet, dRetN, dIf, dIfS, dB, dBin, dUn, dV, dC, sE, asB, dSeq, dSet, dPar, dPar3, dAsg, dExpr, dAnd, dOr, dNot, bAnd, bOr, bNot, dTru, dCB, dCons, dNil, dTup, dLst, dChain, dPass, fCmpI, fIsN, gTp, gsCons, gsNil, gNm, mkTup, dSl, dPart, dNoPart, lim, iLt, iLe, iGt, iGe, x0, x1, c, cb, truP]
      rw [st]
      exact ⟨none, none, rfl⟩
theorem th_2 {e w a2 : Option PV} {S : Sto} : ∀ (l : List ((Int × Hd) × (Int × Hd))) (k : Nat) (a3 a4 : Option PV), (∀ p ∈ l, HOk p.1.2 ∧ HOk p.2.2) → ∃ b3 b4, forP tG1 tB2 (enL eRow l k) [e, w, a2, a3, a4] S =
    (match firstBad (l.map fun r => (r.1.2, r.2.2)) k with | none => .nx [e, w, a2, b3, b4] S | some i => .rt (.tup [.str "rows", .int (i : Nat)]) S)
  | [], k, a3, a4, _ => ⟨a3, a4, rfl⟩
  | (a, b) :: l, k, a3, a4, h => by
    obtain ⟨ha, hb⟩ := h (a, b) List.mem_cons_self
    obtain ⟨b3, b4, ih⟩ := th_2 (e := e) (w := w) (a2 := a2) (S := S) l (k + 1) (some (.int (k : Nat))) (some (.tup [eRow a, eRow b])) fun p hp => h p (List.mem_cons_of_mem _ hp)
    have g : tG1 (.tup [.int (k : Nat), .tup [eRow a, eRow b]]) [e, w, a2, a3, a4] S = .ok [e, w, a2, some (.int (k : Nat)), some (.tup [eRow a, eRow b])] S := rfl
    have c := fun S => l_lcov (S := S) ha hb
    have x0 : ∀ S, fIx (.tup [eRow a, eRow b]) (.int 0) S = .ok (eRow a) S := fun S => rfl
    have x1 : ∀ S, fIx (.tup [eRow a, eRow b]) (.int 1) S = .ok (eRow b) S := fun S => rfl
    rw [enL_cons, forP, g]
    simp only [sE, firstBad, List.map_cons]
    cases cb : covB a.2 b.2 with
    | true =>
      have st : tB2 [e, w, a2, some (.int (k : Nat)), some (.tup [eRow a, eRow b])] S = .nx [e, w, a2, some (.int (k : Nat)), some (.tup [eRow a, eRow b])] S := by simp [tB2, runF, startP, endOf, dRet, dRetN, dIf, dIfS, dB, dBin, dUn, dV, dC, sE, asB, dSeq, dSet, dPar, dPar3, dAsg, dExpr, dAnd, dOr, dNot, bAnd, bOr, bNot, dTru, dCB, dCons, dNil, dTup, dLst, dChain, dPass, fCmpI, fIsN, gTp, gsCons, gsNil, gNm, mkTup, dSl, dPart, dNoPart, lim, iLt, iLe, iGt, iGe, x0, x1, ix_r1, c, cb, truP]
      rw [st]
      exact ⟨b3, b4, ih⟩
    | false =>
      have st : tB2 [e, w, a2, some (.int (k : Nat)), some (.tup [eRow a, eRow b])] S = .rt (.tup [.str "rows", .int (k : Nat)]) S := by simp [tB2, runF, startP, endOf, dRet, dRetN, dIf, dIfS, dB, dBin, dUn, dV, dC, sE, asB, dSeq, dSet, dPar, dPar3, dAsg, dExpr, dAnd, dOr, dNot, bAnd, bOr, bNot, dTru, dCB, dCons, dNil, dTup, dLst, dChain, dPass, fCmpI, fIsN, gTp, gsCons, gsNil, gNm, mkTup, dSl, dPart, dNoPart, lim, iLt, iLe, iGt, iGe, x0, x1, ix_r1, c, cb, truP]
      rw [st]
      exact ⟨none, none, rfl⟩
theorem l_shown {p q : Pr} (h : PrOk p) (k : PrOk q) (S : Sto) : F_law_shown_L [ePr p, ePr q] S = .ok (shown p q) S := by
  have l1 := len_I p
  have l2 := len_I q
  have h1 := fun S => e_heads (di := iSeq (dBin fIx (dV 0) (dC (.int 2)))) (ρ := [some (ePr p), some (ePr q), none, none, none]) (S := S) (rs := p.rows) rfl ⟨_, _, _, rfl⟩ (by have := h.lrow; unfold lim; omega)
  have h2 := fun S => e_heads (di := iSeq (dBin fIx (dV 1) (dC (.int 2)))) (ρ := [some (ePr p), some (ePr q), none, none, none]) (S := S) (rs := q.rows) rfl ⟨_, _, _, rfl⟩ (by have := k.lrow; unfold lim; omega)
  have hq := fun S => eq_heads (neg := true) (xs := p.rows) (ys := q.rows) (S := S)
  generalize hx1 : (PV.nl (p.rows.map fun r => .int r.1)) = X1 at h1 hq
  generalize hx2 : (PV.nl (q.rows.map fun r => .int r.1)) = X2 at h2 hq
  have e : decide (p.rows.map (·.1) = q.rows.map (·.1)) = decide (heads p.rows = heads q.rows) := rfl
  have f : (if alike p q = true then (.nx [some (ePr p), some (ePr q), none, none, none] S : SR) else .rt (.tup [.str "unlike"]) S) = (dIfS (bOr (dB (dBin (fEq true) (dCB fLen (dCons (dBin fIx (dV 0) (dC (.int 1))) (dNil))) (dCB fLen (dCons (dBin fIx (dV 1) (dC (.int 1))) (dNil))))) (dB (dBin (fEq true) (dLc false (iSeq (dBin fIx (dV 0) (dC (.int 2)))) (cNm 2) (dYes) (dBin fIx (dV 2) (dC (.int 0))) [2]) (dLc false (iSeq (dBin fIx (dV 1) (dC (.int 2)))) (cNm 2) (dYes) (dBin fIx (dV 2) (dC (.int 0))) [2])))) (dRet (dTup (dCons (dC (.str ("unlike" : Str))) (dNil)))) (dPass)) [some (ePr p), some (ePr q), none, none, none] S := by
    unfold alike
    rw [e]
    cases c1 : decide (p.ins.length = q.ins.length) <;> cases c2 : decide (heads p.rows = heads q.rows) <;> rw [c2] at hq <;>
      simp [runF, startP, endOf, dRet, dRetN, dIf, dIfS, dB, dBin, dUn, dV, dC, sE, asB, dSeq, dSet, dPar, dPar3, dAsg, dExpr, dAnd, dOr, dNot, bAnd, bOr, bNot, dTru, dCB, dCons, dNil, dTup, dLst, dChain, dPass, fCmpI, fIsN, gTp, gsCons, gsNil, gNm, mkTup, dSl, dPart, dNoPart, lim, iLt, iLe, iGt, iGe, p1, p2, l1, l2, lne, h1, h2, hq, c1, truP]
  obtain ⟨b3, b4, m1⟩ := th_1 (e := some (ePr p)) (w := some (ePr q)) (a2 := none) (S := S) (pairs p q) 0 none none (h.pairs k)
  obtain ⟨c3, c4, m2⟩ := th_2 (e := some (ePr p)) (w := some (ePr q)) (a2 := none) (S := S) (rpairs p q) 0 b3 b4 (h.rpairs k)
  have i1 : iEnZ (dCons (dBin fIx (dV 0) (dC (.int 1))) (dCons (dBin fIx (dV 1) (dC (.int 1))) (dNil))) [some (ePr p), some (ePr q), none, none, none] S = .ok (enL eH (pairs p q) 0) S := by
    show Res.ok (enumP (p.ins.map eH) (q.ins.map eH)) S = _
    rw [enumP_map]; rfl
  have i2 : ∀ a3 a4, iEnZ (dCons (dBin fIx (dV 0) (dC (.int 2))) (dCons (dBin fIx (dV 1) (dC (.int 2))) (dNil))) [some (ePr p), some (ePr q), none, a3, a4] S = .ok (enL eRow (rpairs p q) 0) S := fun _ _ => by
    show Res.ok (enumP (p.rows.map eRow) (q.rows.map eRow)) S = _
    rw [enumP_map]; rfl
  have o := fun S => l_lcov (S := S) k.out.ok h.out.ok
  have dd : d_law_shown_L = dSeq (dIfS (bOr (dB (dBin (fEq true) (dCB fLen (dCons (dBin fIx (dV 0) (dC (.int 1))) (dNil))) (dCB fLen (dCons (dBin fIx (dV 1) (dC (.int 1))) (dNil))))) (dB (dBin (fEq true) (dLc false (iSeq (dBin fIx (dV 0) (dC (.int 2)))) (cNm 2) (dYes) (dBin fIx (dV 2) (dC (.int 0))) [2]) (dLc false (iSeq (dBin fIx (dV 1) (dC (.int 2)))) (cNm 2) (dYes) (dBin fIx (dV 2) (dC (.int 0))) [2])))) (dRet (dTup (dCons (dC (.str ("unlike" : Str))) (dNil)))) (dPass)) (dSeq (dFor (iEnZ (dCons (dBin fIx (dV 0) (dC (.int 1))) (dCons (dBin fIx (dV 1) (dC (.int 1))) (dNil)))) tG1 tB1) (dSeq (dFor (iEnZ (dCons (dBin fIx (dV 0) (dC (.int 2))) (dCons (dBin fIx (dV 1) (dC (.int 2))) (dNil)))) tG1 tB2) (dRet (dIf (dTru (dCB F_law_covers_L (dCons (dBin fIx (dV 1) (dC (.int 3))) (dCons (dBin fIx (dV 0) (dC (.int 3))) (dNil))))) (dTup (dCons (dC (.str ("backs" : Str))) (dNil))) (dTup (dCons (dC (.str ("out" : Str))) (dNil))))))) := rfl
  have e0 : F_law_shown_L [ePr p, ePr q] S = endOf (d_law_shown_L [some (ePr p), some (ePr q), none, none, none] S) := rfl
  rw [e0, dd]
  unfold shown
  simp only [dSeq, ← f]
  cases ca : alike p q with
  | false => simp [runF, startP, endOf, dRet, dRetN, dIf, dIfS, dB, dBin, dUn, dV, dC, sE, asB, dSeq, dSet, dPar, dPar3, dAsg, dExpr, dAnd, dOr, dNot, bAnd, bOr, bNot, dTru, dCB, dCons, dNil, dTup, dLst, dChain, dPass, fCmpI, fIsN, gTp, gsCons, gsNil, gNm, mkTup, dSl, dPart, dNoPart, lim, iLt, iLe, iGt, iGe]
  | true =>
    simp only [if_true, dFor, i1, sE, m1]
    cases f1 : firstBad (pairs p q) 0 with
    | some i => rfl
    | none =>
      simp only [i2, sE, m2]
      cases f2 : firstBad ((rpairs p q).map fun r => (r.1.2, r.2.2)) 0 with
      | some i => rfl
      | none => cases co : covB q.out p.out <;> simp [runF, startP, endOf, dRet, dRetN, dIf, dIfS, dB, dBin, dUn, dV, dC, sE, asB, dSeq, dSet, dPar, dPar3, dAsg, dExpr, dAnd, dOr, dNot, bAnd, bOr, bNot, dTru, dCB, dCons, dNil, dTup, dLst, dChain, dPass, fCmpI, fIsN, gTp, gsCons, gsNil, gNm, mkTup, dSl, dPart, dNoPart, lim, iLt, iLe, iGt, iGe, p3, o, co, truP]
/-! ### what is shown, and backing -/
theorem firstBad_none : ∀ (l : List (Hd × Hd)) (k : Nat), firstBad l k = none ↔ l.all (fun z => covB z.1 z.2) = true
  | [], k => by simp [firstBad]
  | (a, b) :: l, k => by
    rw [firstBad, List.all_cons]
    cases c : covB a b with
    | true => simp [firstBad_none l (k + 1)]
    | false => simp
inductive Sh where
  | un
  | ins (i : Nat)
  | rows (i : Nat)
  | backs
  | out
def eSh : Sh → PV
  | .un => .tup [.str "unlike"]
  | .ins i => .tup [.str "ins", .int (i : Nat)]
  | .rows i => .tup [.str "rows", .int (i : Nat)]
  | .backs => .tup [.str "backs"]
  | .out => .tup [.str "out"]
theorem shown_is (p q : Pr) : ∃ s, shown p q = eSh s ∧ (backsB p q = true ↔ s = .backs) := by
  unfold shown backsB
  cases ca : alike p q with
  | false => exact ⟨.un, by simp [eSh], by simp⟩
  | true =>
    cases f1 : firstBad (pairs p q) 0 with
    | some i =>
      refine ⟨.ins i, by simp [eSh], ?_⟩
      have : ¬ (pairs p q).all (fun z => covB z.1 z.2) = true := fun z => by rw [(firstBad_none _ 0).mpr z] at f1; cases f1
      simp [this]
    | none =>
      have g1 := (firstBad_none _ 0).mp f1
      cases f2 : firstBad ((rpairs p q).map fun r => (r.1.2, r.2.2)) 0 with
      | some i =>
        refine ⟨.rows i, by simp [eSh], ?_⟩
        have : ¬ (rpairs p q).all (fun z => covB z.1.2 z.2.2) = true := fun z => by
          rw [(firstBad_none _ 0).mpr (by rw [List.all_map]; exact z)] at f2; cases f2
        simp [this]
      | none =>
        have g2 := (firstBad_none _ 0).mp f2
        rw [List.all_map] at g2
        have g2' : (rpairs p q).all (fun z => covB z.1.2 z.2.2) = true := g2
        cases co : covB q.out p.out with
        | true => exact ⟨.backs, by simp [eSh], by simp [g1, g2']⟩
        | false => exact ⟨.out, by simp [eSh], by simp⟩
end G72
end
section
set_option Elab.async false
set_option linter.all false
set_option maxRecDepth 100000
set_option maxHeartbeats 4000000
set_option exponentiation.threshold 5000
namespace G72
open PySem PySem.Spec PyProof.Rows L2 Mi Ra
/-- a draw leaves all but the hand -/
theorem e_drawK {b k : Int} {S : Sto} (h : Hk b S) (hk : 0 < k) (hk2 : k ≤ 1000000000000000000000000000000) (hb : b ≤ 1000000000) : ∃ d S', F_law_draw_L [.ref 0, .int k] S = .ok (.int d) S' ∧ 0 ≤ d ∧ d < k ∧ Hk (b + 1) S' ∧ ∀ n, 1 ≤ n → S'[n]? = S[n]? := by
  obtain ⟨cs, i, v, s, c, e, q⟩ := h
  have hS : 0 < S.length := (List.getElem?_eq_some_iff.mp e).1
  have ot : ∀ a b c d e n, 1 ≤ n → (hT S a b c d e)[n]? = S[n]? := fun a b c d e n hn => by
    unfold hT
    rw [List.getElem?_set_ne (by omega)]
  have e' := e
  rw [show F_law_draw_L [.ref 0, .int k] S = F_law_draw_L [.ref 0, .int k] (hT S (cellsP cs) (.int i) (.int v) (.int s) (.int c)) from by rw [← hT_self e']]
  obtain ⟨x2, i', v', s', hA, q'⟩ := draw_A (k := k) hS q
  have at_ : ∀ {i v s c : Int} {b' : Int}, HB cs i v s c b' → Hk b' (hT S (cellsP cs) (.int i) (.int v) (.int s) (.int c)) := fun {i v s c b'} q => ⟨cs, i, v, s, c, hT_get hS, q⟩
  have step : F_law_draw_L [.ref 0, .int k] (hT S (cellsP cs) (.int i) (.int v) (.int s) (.int c)) = endOf (match dA [some (.ref 0), some (.int k), none, none, none] (hT S (cellsP cs) (.int i) (.int v) (.int s) (.int c)) with
    | .nx ρ' S' => (match dBs ρ' S' with | .nx ρ' S' => dCs ρ' S' | r => r)
    | r => r) := rfl
  rw [step, hA]
  simp only
  rcases draw_B (x2 := x2) hS hk hk2 q' with ⟨_, d, v2, hB, d0, d1, q2⟩ | ⟨_, hB⟩
  · rw [hB]
    exact ⟨d, _, rfl, d0, d1, (at_ q2).mono (by omega), ot _ _ _ _ _⟩
  · rw [hB]
    obtain ⟨d, hC, d0, d1, q3⟩ := draw_C (x2 := x2) hS hk hb q'
    simp only
    rw [hC]
    exact ⟨d, _, rfl, d0, d1, at_ q3, ot _ _ _ _ _⟩
theorem e_anyRef {b : Int} {S : Sto} {n : Nat} {xs : List PV} (h : Hk b S) (hb : b ≤ 999999000) (hn : 1 ≤ n) (hS : S[n]? = some (SO.lst xs)) (hx : 0 < xs.length) (hx2 : xs.length ≤ 1000) : ∃ y ∈ xs, ∃ S', F_law_any_L [.ref 0, .ref n] S = .ok y S' ∧ Hk (b + 1) S' := by
  obtain ⟨d, S1, e1, a1, b1, k1, kp⟩ := e_drawK (k := xs.length) h (by omega) (by omega) (by omega)
  have hl : d.toNat < xs.length := by omega
  refine ⟨xs[d.toNat], List.getElem_mem hl, S1, ?_, k1⟩
  have e : atI xs d = some xs[d.toNat] := by
    unfold atI ixN
    rw [if_pos a1, if_pos (by omega)]
    simp [hl]
  have hS1 : S1[n]? = some (SO.lst xs) := by rw [kp n hn]; exact hS
  have e2 : fIx (.ref n) (.int d) S1 = .ok xs[d.toNat] S1 := by
    exact ix_ref hS1 e
  have e3 : fLen [.ref n] S = .ok (.int xs.length) S := by
    show (match seqOf (.ref n) S with | some xs => Res.ok (PV.int (xs.length : Int)) S | none => .bad) = _
    rw [seq_ref hS]
  simp [F_law_any_L, d_law_any_L, runF, startP, endOf, dRet, dRetN, dIf, dIfS, dB, dBin, dUn, dV, dC, sE, asB, dSeq, dSet, dPar, dPar3, dAsg, dExpr, dAnd, dOr, dNot, bAnd, bOr, bNot, dTru, dCB, dCons, dNil, dTup, dLst, dChain, dPass, fCmpI, fIsN, gTp, gsCons, gsNil, gNm, mkTup, dSl, dPart, dNoPart, lim, iLt, iLe, iGt, iGe, e3, e1, e2]
/-! ### drawn holds -/
structure HZ (n : Nat) (h : Hd) : Prop where
  lo : Sz n n h.lo
  hi : Sz n n h.hi
  off : Sz n n h.off
  is : h.Is
theorem HZ.mono {n m : Nat} {h : Hd} (k : HZ n h) (e : n ≤ m) : HZ m h := ⟨k.lo.mono e e, k.hi.mono e e, k.off.mono e e, k.is⟩
theorem HZ.hg {n : Nat} {h : Hd} (k : HZ n h) (e : n < 10 ^ 300) : HG h := ⟨⟨k.lo.ok e e, k.hi.ok e e, k.off.ok e e⟩, k.is⟩
theorem low_sm {a c : Int} {S : Sto} (c0 : 0 < c) (h1 : a.natAbs ≤ 1000) (h2 : c ≤ 1000) : F_law_low_L [.int a, .int c] S = .ok (eQ (Rat.divInt a c)) S :=
  l_low c0 (Nat.le_trans h1 (by decide +kernel)) (Nat.le_trans (show c.natAbs ≤ 1000 by omega) (by decide +kernel))
theorem l_hold {b : Int} {S : Sto} (hk : Hk b S) (hb : b ≤ 999995000) : ∃ h S', F_law_hold_L [.ref 0] S = .ok (eH h) S' ∧ HZ 1000 h ∧ Hk (b + 6) S' := by
  obtain ⟨d1, S1, e1, a1, b1, k1⟩ := e_draw (k := 9) hk (by decide) (by decide) (by omega)
  obtain ⟨d2, S2, e2, a2, b2, k2⟩ := e_draw (k := 2) k1 (by decide) (by decide) (by omega)
  obtain ⟨d3, S3, e3, a3, b3, k3⟩ := e_draw (k := 5) k2 (by decide) (by decide) (by omega)
  obtain ⟨d4, S4, e4, a4, b4, k4⟩ := e_draw (k := 2) k3 (by decide) (by decide) (by omega)
  obtain ⟨d5, S5, e5, a5, b5, k5⟩ := e_draw (k := 4) k4 (by decide) (by decide) (by omega)
  obtain ⟨d6, S6, e6, a6, b6, k6⟩ := e_draw (k := 8) k5 (by decide) (by decide) (by omega)
  have l1 := fun S => low_sm (a := d1 - 4) (c := 1 + d2) (S := S) (by omega) (by omega) (by omega)
  have l2 := fun S => low_sm (a := d3) (c := 1 + d4) (S := S) (by omega) (by omega) (by omega)
  have l3 := fun S => low_sm (a := d5) (c := 1 + d6) (S := S) (by omega) (by omega) (by omega)
  have s1 : Sz 4 2 (Rat.divInt (d1 - 4) (1 + d2)) := num_ge (by omega) (by omega) (by omega)
  have s2 : Sz 4 2 (Rat.divInt d3 (1 + d4)) := num_ge (by omega) (by omega) (by omega)
  have s3 : Sz 3 8 (Rat.divInt d5 (1 + d6)) := num_ge (by omega) (by omega) (by omega)
  have n2 : 0 ≤ Rat.divInt d3 (1 + d4) := Rat.divInt_nonneg a3 (by omega)
  have n3 : 0 ≤ Rat.divInt d5 (1 + d6) := Rat.divInt_nonneg a5 (by omega)
  have p := fun S => l_plus (S := S) (s1.ok (by decide +kernel) (by decide +kernel)) (s2.ok (by decide +kernel) (by decide +kernel))
  have s4 := s1.add s2
  generalize Rat.divInt (d1 - 4) (1 + d2) = x at *
  generalize Rat.divInt d3 (1 + d4) = y at *
  generalize Rat.divInt d5 (1 + d6) = z at *
  refine ⟨⟨x, x + y, z⟩, S6, ?_, ⟨s1.mono (by decide) (by decide), s4.mono (by decide) (by decide), s3.mono (by decide) (by decide), ⟨by show x ≤ x + y; grind, n3⟩⟩, k6.mono (by omega)⟩
  simp [F_law_hold_L, d_law_hold_L, runF, startP, endOf, dRet, dRetN, dIf, dIfS, dB, dBin, dUn, dV, dC, sE, asB, dSeq, dSet, dPar, dPar3, dAsg, dExpr, dAnd, dOr, dNot, bAnd, bOr, bNot, dTru, dCB, dCons, dNil, dTup, dLst, dChain, dPass, fCmpI, fIsN, gTp, gsCons, gsNil, gNm, mkTup, dSl, dPart, dNoPart, lim, iLt, iLe, iGt, iGe, e1, e2, e3, e4, e5, e6, w_add, w_sub, l1, l2, l3, p, eH]
theorem mid_is (x y : Rat) : Rat.divInt (x.num * (y.den : Int) + y.num * (x.den : Int)) (2 * (x.den : Int) * (y.den : Int)) = (x + y) / 2 := by
  rw [← add_is, div_eq, div_eq]
  have a : ((x.den : Int) : Rat) ≠ 0 := by have := x.den_nz; simp [this]
  have b : ((y.den : Int) : Rat) ≠ 0 := by have := y.den_nz; simp [this]
  simp only [Rat.intCast_mul, Rat.intCast_add]
  grind
theorem half_is (x : Rat) : Rat.divInt x.num (2 * (x.den : Int)) = x / 2 := by
  have h := self x
  rw [div_eq] at h ⊢
  simp only [Rat.intCast_mul]
  have a : ((x.den : Int) : Rat) ≠ 0 := by have := x.den_nz; simp [this]
  grind
theorem plus_u {x : Rat} {u : Int} {S : Sto} (hx : Ok x) (hu : u.natAbs ≤ 2) : F_law_plus_L [eQ x, .tup [.int u, .int 2]] S = .ok (eQ (x + (u : Rat) / 2)) S := by
  have m1 := fun S => mul_sm (S := S) (i := x.num) (j := 2) (sm_n hx) (by decide +kernel)
  have m2 := fun S => mul_sm (S := S) (i := u) (j := (x.den : Int)) (Nat.le_trans hu (by decide +kernel)) (sm_d hx)
  have m3 := fun S => mul_sm (S := S) (i := (x.den : Int)) (j := 2) (sm_d hx) (by decide +kernel)
  have dp : 0 < (x.den : Int) := den_p x
  have b1 : (x.num * 2).natAbs ≤ 10 ^ 300 * 2 := mul_abs (n6 hx) (by decide)
  have b2 : (u * (x.den : Int)).natAbs ≤ 2 * 10 ^ 300 := mul_abs hu (d6 hx)
  have b3 : ((x.den : Int) * 2).natAbs ≤ 10 ^ 300 * 2 := mul_abs (d6 hx) (by decide)
  have l := fun S => l_low (a := x.num * 2 + u * (x.den : Int)) (b := (x.den : Int) * 2) (S := S) (by omega) (Nat.le_trans (Nat.le_trans (Int.natAbs_add_le _ _) (Nat.add_le_add b1 b2)) (by decide +kernel)) (Nat.le_trans b3 (by decide +kernel))
  have e : Rat.divInt (x.num * 2 + u * (x.den : Int)) ((x.den : Int) * 2) = x + (u : Rat) / 2 := by
    have h := self x
    rw [div_eq] at h ⊢
    simp only [Rat.intCast_mul, Rat.intCast_add]
    have a : ((x.den : Int) : Rat) ≠ 0 := by have := x.den_nz; simp [this]
    have t : ((2 : Int) : Rat) = 2 := rfl
    rw [t]
    grind
  rw [e] at l
  have i0 : ∀ S, fIx (.tup [.int u, .int 2]) (.int 0) S = .ok (.int u) S := fun S => rfl
  have i1 : ∀ S, fIx (.tup [.int u, .int 2]) (.int 1) S = .ok (.int 2) S := fun S => rfl
  simp [F_law_plus_L, d_law_plus_L, runF, startP, endOf, dRet, dRetN, dIf, dIfS, dB, dBin, dUn, dV, dC, sE, asB, dSeq, dSet, dPar, dPar3, dAsg, dExpr, dAnd, dOr, dNot, bAnd, bOr, bNot, dTru, dCB, dCons, dNil, dTup, dLst, dChain, dPass, fCmpI, fIsN, gTp, gsCons, gsNil, gNm, mkTup, dSl, dPart, dNoPart, lim, iLt, iLe, iGt, iGe, ix_q0, ix_q1, i0, i1, m1, m2, m3, w_add, l]
theorem sz_u {u : Int} (hu : u.natAbs ≤ 2) : Sz 2 2 ((u : Rat) / 2) := by
  have h : Sz 2 2 (Rat.divInt u 2) := num_ge (by decide) hu (by decide)
  rw [div_eq] at h
  exact h
theorem ga0 {α : Type} (S r : List α) (x : α) : (S ++ x :: r)[S.length]? = some x := by simp
theorem ga1 {α : Type} (S r : List α) (x y : α) : (S ++ x :: y :: r)[S.length + 1]? = some y := by simp
theorem sa1 {α : Type} (S r : List α) (x y v : α) : (S ++ x :: y :: r).set (S.length + 1) v = S ++ x :: v :: r := by simp
theorem l_moved {b : Int} {n : Nat} {h : Hd} {S : Sto} (hk : Hk b S) (hb : b ≤ 999995000) (hz : HZ n h) (n0 : 1000 ≤ n) (n1 : n ≤ 10 ^ 60) : ∃ g S', F_law_moved_L [.ref 0, eH h] S = .ok (eH g) S' ∧ HZ (4 * n * n) g ∧ Hk (b + 2) S' := by
  obtain ⟨d, S1, e1, a1, b1, k1⟩ := e_draw (k := 2) hk (by decide) (by decide) (by omega)
  obtain ⟨lo, hi, off⟩ := h
  have zl : Sz n n lo := hz.lo
  have zh : Sz n n hi := hz.hi
  have zo : Sz n n off := hz.off
  have ile : lo ≤ hi := hz.is.le
  have inn : 0 ≤ off := hz.is.nn
  have big : n < 10 ^ 300 := Nat.lt_of_le_of_lt n1 (by decide +kernel)
  have ol : Ok lo := zl.ok big big
  have oh : Ok hi := zh.ok big big
  have oo : Ok off := zo.ok big big
  have n4 : 4 * n ≤ 4 * n * n := Nat.le_mul_of_pos_right _ (by omega)
  have n2 : n * 2 ≤ 4 * n * n := by omega
  have nn : n ≤ 4 * n * n := by omega
  have up : ∀ {x : Rat} {u : Int}, Sz n n x → u.natAbs ≤ 2 → Sz (4 * n * n) (4 * n * n) (x + (u : Rat) / 2) := fun hx hu => (hx.add (sz_u hu)).mono (by omega) n2
  have q1 := fun S => plus_u (x := lo) (u := 0 - (1 + d)) (S := S) ol (by omega)
  have q2 := fun S => plus_u (x := hi) (u := 1 + d) (S := S) oh (by omega)
  have q3 := fun S => plus_u (x := off) (u := 1 + d) (S := S) oo (by omega)
  have z1 := up (u := 0 - (1 + d)) zl (by omega)
  have z2 := up (u := 1 + d) zh (by omega)
  have z3 := up (u := 1 + d) zo (by omega)
  have sp : 0 ≤ ((1 + d : Int) : Rat) / 2 := by
    have : (0 : Rat) ≤ ((1 + d : Int) : Rat) := by exact_mod_cast (show (0 : Int) ≤ 1 + d by omega)
    grind
  have sm : ((0 - (1 + d) : Int) : Rat) / 2 ≤ 0 := by
    have : ((0 - (1 + d) : Int) : Rat) ≤ 0 := by exact_mod_cast (show 0 - (1 + d) ≤ (0 : Int) by omega)
    grind
  have m1 := fun S => mul_sm (S := S) (sm_n ol) (sm_d oh)
  have m2 := fun S => mul_sm (S := S) (sm_n oh) (sm_d ol)
  have dl : (lo.den : Int).natAbs ≤ n := by have := zl.d; omega
  have dh : (hi.den : Int).natAbs ≤ n := by have := zh.d; omega
  have do_ : (off.den : Int).natAbs ≤ n := by have := zo.d; omega
  have t1 : (2 * (lo.den : Int)).natAbs ≤ 2 * n := mul_abs (by decide) dl
  have t2 : (2 * (lo.den : Int) * (hi.den : Int)).natAbs ≤ 2 * n * n := mul_abs t1 dh
  have t3 : (lo.num * (hi.den : Int)).natAbs ≤ n * n := mul_abs zl.n dh
  have t4 : (hi.num * (lo.den : Int)).natAbs ≤ n * n := mul_abs zh.n dl
  have t5 : (2 * (off.den : Int)).natAbs ≤ 2 * n := mul_abs (by decide) do_
  have sq : n * n ≤ 10 ^ 120 := Nat.le_trans (Nat.mul_le_mul n1 n1) (by decide +kernel)
  have sq2 : 2 * n * n = 2 * (n * n) := Nat.mul_assoc 2 n n
  have sq4 : 4 * n * n = 4 * (n * n) := Nat.mul_assoc 4 n n
  have pl := den_p lo
  have ph := den_p hi
  have po := den_p off
  have pp : 0 < 2 * (lo.den : Int) * (hi.den : Int) := Int.mul_pos (by omega) ph
  have m3 := fun S => mul_sm (S := S) (i := 2) (j := (lo.den : Int)) (by decide +kernel) (sm_d ol)
  have m4 := fun S => mul_sm (S := S) (i := 2 * (lo.den : Int)) (j := (hi.den : Int)) (Nat.le_trans t1 (Nat.le_trans (Nat.mul_le_mul_left 2 n1) (by decide +kernel))) (sm_d oh)
  have m5 := fun S => mul_sm (S := S) (i := 2) (j := (off.den : Int)) (by decide +kernel) (sm_d oo)
  have ta : (lo.num * (hi.den : Int) + hi.num * (lo.den : Int)).natAbs ≤ 2 * (n * n) := Nat.le_trans (Int.natAbs_add_le _ _) (by omega)
  have l1 := fun S => l_low (a := lo.num * (hi.den : Int) + hi.num * (lo.den : Int)) (b := 2 * (lo.den : Int) * (hi.den : Int)) (S := S) pp (Nat.le_trans ta (Nat.le_trans (Nat.mul_le_mul_left 2 sq) (by decide +kernel))) (Nat.le_trans (by rw [← sq2]; exact t2) (Nat.le_trans (Nat.mul_le_mul_left 2 sq) (by decide +kernel)))
  have l2 := fun S => l_low (a := off.num) (b := 2 * (off.den : Int)) (S := S) (by omega) (sm_n oo) (Nat.le_trans t5 (Nat.le_trans (Nat.mul_le_mul_left 2 n1) (by decide +kernel)))
  rw [mid_is] at l1
  rw [half_is] at l2
  have z4 : Sz (4 * n * n) (4 * n * n) ((lo + hi) / 2) := by
    rw [← mid_is]
    exact num_ge (by omega) (by omega) (by omega)
  have z5 : Sz (4 * n * n) (4 * n * n) (off / 2) := by
    rw [← half_is]
    exact num_ge (by omega) (Nat.le_trans zo.n nn) (by omega)
  have zL : Sz (4 * n * n) (4 * n * n) lo := zl.mono nn nn
  have zH : Sz (4 * n * n) (4 * n * n) hi := zh.mono nn nn
  have zO : Sz (4 * n * n) (4 * n * n) off := zo.mono nn nn
  have z0 : Sz (4 * n * n) (4 * n * n) (0 : Rat) := ⟨by show 0 ≤ _; omega, by show 1 ≤ _; omega⟩
  generalize ((0 - (1 + d) : Int) : Rat) / 2 = sL at *
  generalize ((1 + d : Int) : Rat) / 2 = sU at *
  obtain ⟨mid, em⟩ : ∃ mid, mid = (lo + hi) / 2 := ⟨_, rfl⟩
  obtain ⟨hf, eh⟩ : ∃ hf, hf = off / 2 := ⟨_, rfl⟩
  rw [← em] at l1 z4
  rw [← eh] at l2 z5
  have g1 : lo ≤ mid := by rw [em]; grind
  have g2 : mid ≤ hi := by rw [em]; grind
  have g3 : 0 ≤ hf := by rw [eh]; grind
  obtain ⟨L, eL⟩ : ∃ L : List PV, L = [eH ⟨lo + sL, hi, off⟩, eH ⟨lo, hi + sU, off⟩, eH ⟨lo, hi, off + sU⟩, eH ⟨mid, hi, off⟩, eH ⟨lo, mid, off⟩, eH ⟨lo, hi, hf⟩, eH ⟨lo, hi, 0⟩] := ⟨_, rfl⟩
  let S2 : Sto := S1 ++ [SO.lst [eH ⟨lo + sL, hi, off⟩, eH ⟨lo, hi + sU, off⟩, eH ⟨lo, hi, off + sU⟩], SO.lst L]
  have k2 : Hk (b + 1) S2 := k1.more _
  have gL : S2[S1.length + 1]? = some (SO.lst L) := ga1 _ _ _ _
  obtain ⟨y, hy, S3, e3, k3⟩ := e_anyRef (n := S1.length + 1) k2 (by omega) (by omega) gL (by rw [eL]; simp) (by rw [eL]; simp)
  have hy' : ∃ g, y = eH g ∧ HZ (4 * n * n) g := by
    rw [eL] at hy
    simp only [List.mem_cons, List.not_mem_nil, or_false] at hy
    rcases hy with rfl | rfl | rfl | rfl | rfl | rfl | rfl
    · exact ⟨_, rfl, z1, zH, zO, ⟨by show lo + sL ≤ hi; grind, inn⟩⟩
    · exact ⟨_, rfl, zL, z2, zO, ⟨by show lo ≤ hi + sU; grind, inn⟩⟩
    · exact ⟨_, rfl, zL, zH, z3, ⟨ile, by show 0 ≤ off + sU; grind⟩⟩
    · exact ⟨_, rfl, z4, zH, zO, ⟨g2, inn⟩⟩
    · exact ⟨_, rfl, zL, z4, zO, ⟨g1, inn⟩⟩
    · exact ⟨_, rfl, zL, zH, z5, ⟨ile, g3⟩⟩
    · exact ⟨_, rfl, zL, zH, z0, ⟨ile, Rat.le_refl⟩⟩
  obtain ⟨g, rfl, hg⟩ := hy'
  refine ⟨g, S3, ?_, hg, k3.mono (by omega)⟩
  have ad : fAdd true (.ref S1.length) (.nl [eH ⟨mid, hi, off⟩, eH ⟨lo, mid, off⟩, eH ⟨lo, hi, hf⟩]) (S1 ++ [SO.lst [eH ⟨lo + sL, hi, off⟩, eH ⟨lo, hi + sU, off⟩, eH ⟨lo, hi, off + sU⟩]]) = .ok (.ref (S1.length + 1)) (S1 ++ [SO.lst [eH ⟨lo + sL, hi, off⟩, eH ⟨lo, hi + sU, off⟩, eH ⟨lo, hi, off + sU⟩], SO.lst [eH ⟨lo + sL, hi, off⟩, eH ⟨lo, hi + sU, off⟩, eH ⟨lo, hi, off + sU⟩, eH ⟨mid, hi, off⟩, eH ⟨lo, mid, off⟩, eH ⟨lo, hi, hf⟩]]) := by
    simp [fAdd, lstT, ga0, mkLst, lim]
  have h1 : ∀ x y z : Rat, PV.tup [eQ x, eQ y, eQ z] = eH ⟨x, y, z⟩ := fun _ _ _ => rfl
  have h0 : PV.tup [.int 0, .int 1] = eQ 0 := rfl
  have st1 : (dAsg (dV 1) (gTp 3 (gsCons (gNm 2) (gsCons (gNm 3) (gsCons (gNm 4) (gsNil)))))) [some (.ref 0), some (eH ⟨lo, hi, off⟩), none, none, none, none, none, none, none] S = .nx [some (.ref 0), some (eH ⟨lo, hi, off⟩), some (eQ lo), some (eQ hi), some (eQ off), none, none, none, none] S := rfl
  have i0 : ∀ S, fIx (.tup [.int (1 + d), .int 2]) (.int 0) S = .ok (.int (1 + d)) S := fun S => rfl
  have st2 : (dSet 5 (dTup (dCons (dBin (fAdd false) (dC (.int 1)) (dCB F_law_draw_L (dCons (dV 0) (dCons (dC (.int 2)) (dNil))))) (dCons (dC (.int 2)) (dNil))))) [some (.ref 0), some (eH ⟨lo, hi, off⟩), some (eQ lo), some (eQ hi), some (eQ off), none, none, none, none] S = .nx [some (.ref 0), some (eH ⟨lo, hi, off⟩), some (eQ lo), some (eQ hi), some (eQ off), some (.tup [.int (1 + d), .int 2]), none, none, none] S1 := by
    simp [runF, startP, endOf, dRet, dRetN, dIf, dIfS, dB, dBin, dUn, dV, dC, sE, asB, dSeq, dSet, dPar, dPar3, dAsg, dExpr, dAnd, dOr, dNot, bAnd, bOr, bNot, dTru, dCB, dCons, dNil, dTup, dLst, dChain, dPass, fCmpI, fIsN, gTp, gsCons, gsNil, gNm, mkTup, dSl, dPart, dNoPart, lim, iLt, iLe, iGt, iGe, e1, w_add]
  have q1 : ∀ S, F_law_plus_L [eQ lo, .tup [.int (-(1 + d)), .int 2]] S = .ok (eQ (lo + sL)) S := fun S => by
    have := q1 S
    rwa [show (0 - (1 + d) : Int) = -(1 + d) from by omega] at this
  have st3 : (dPar 6 7 (dCons (dCB F_law_plus_L (dCons (dV 2) (dCons (dTup (dCons (dBin fSub (dC (.int 0)) (dBin fIx (dV 5) (dC (.int 0)))) (dCons (dC (.int 2)) (dNil)))) (dNil)))) (dCons (dCB F_law_low_L (dCons (dBin (fAdd false) (dBin (fMul false) (dBin fIx (dV 2) (dC (.int 0))) (dBin fIx (dV 3) (dC (.int 1)))) (dBin (fMul false) (dBin fIx (dV 3) (dC (.int 0))) (dBin fIx (dV 2) (dC (.int 1))))) (dCons (dBin (fMul false) (dBin (fMul false) (dC (.int 2)) (dBin fIx (dV 2) (dC (.int 1)))) (dBin fIx (dV 3) (dC (.int 1)))) (dNil)))) (dNil)))) [some (.ref 0), some (eH ⟨lo, hi, off⟩), some (eQ lo), some (eQ hi), some (eQ off), some (.tup [.int (1 + d), .int 2]), none, none, none] S1 = .nx [some (.ref 0), some (eH ⟨lo, hi, off⟩), some (eQ lo), some (eQ hi), some (eQ off), some (.tup [.int (1 + d), .int 2]), some (eQ (lo + sL)), some (eQ mid), none] S1 := by
    simp [runF, startP, endOf, dRet, dRetN, dIf, dIfS, dB, dBin, dUn, dV, dC, sE, asB, dSeq, dSet, dPar, dPar3, dAsg, dExpr, dAnd, dOr, dNot, bAnd, bOr, bNot, dTru, dCB, dCons, dNil, dTup, dLst, dChain, dPass, fCmpI, fIsN, gTp, gsCons, gsNil, gNm, mkTup, dSl, dPart, dNoPart, lim, iLt, iLe, iGt, iGe, i0, w_sub, q1, ix_q0, ix_q1, m1, m2, m3, m4, w_add, l1]
  have st4 : (dSet 8 (dLst true (dCons (dTup (dCons (dV 6) (dCons (dV 3) (dCons (dV 4) (dNil))))) (dCons (dTup (dCons (dV 2) (dCons (dCB F_law_plus_L (dCons (dV 3) (dCons (dV 5) (dNil)))) (dCons (dV 4) (dNil))))) (dCons (dTup (dCons (dV 2) (dCons (dV 3) (dCons (dCB F_law_plus_L (dCons (dV 4) (dCons (dV 5) (dNil)))) (dNil))))) (dNil)))))) [some (.ref 0), some (eH ⟨lo, hi, off⟩), some (eQ lo), some (eQ hi), some (eQ off), some (.tup [.int (1 + d), .int 2]), some (eQ (lo + sL)), some (eQ mid), none] S1 = .nx [some (.ref 0), some (eH ⟨lo, hi, off⟩), some (eQ lo), some (eQ hi), some (eQ off), some (.tup [.int (1 + d), .int 2]), some (eQ (lo + sL)), some (eQ mid), some (.ref S1.length)] (S1 ++ [SO.lst [eH ⟨lo + sL, hi, off⟩, eH ⟨lo, hi + sU, off⟩, eH ⟨lo, hi, off + sU⟩]]) := by
    simp [runF, startP, endOf, dRet, dRetN, dIf, dIfS, dB, dBin, dUn, dV, dC, sE, asB, dSeq, dSet, dPar, dPar3, dAsg, dExpr, dAnd, dOr, dNot, bAnd, bOr, bNot, dTru, dCB, dCons, dNil, dTup, dLst, dChain, dPass, fCmpI, fIsN, gTp, gsCons, gsNil, gNm, mkTup, dSl, dPart, dNoPart, lim, iLt, iLe, iGt, iGe, q2, q3, mkLst, h1]
  have st5 : (dSet 8 (dBin (fAdd true) (dV 8) (dLst false (dCons (dTup (dCons (dV 7) (dCons (dV 3) (dCons (dV 4) (dNil))))) (dCons (dTup (dCons (dV 2) (dCons (dV 7) (dCons (dV 4) (dNil))))) (dCons (dTup (dCons (dV 2) (dCons (dV 3) (dCons (dCB F_law_low_L (dCons (dBin fIx (dV 4) (dC (.int 0))) (dCons (dBin (fMul false) (dC (.int 2)) (dBin fIx (dV 4) (dC (.int 1)))) (dNil)))) (dNil))))) (dNil))))))) [some (.ref 0), some (eH ⟨lo, hi, off⟩), some (eQ lo), some (eQ hi), some (eQ off), some (.tup [.int (1 + d), .int 2]), some (eQ (lo + sL)), some (eQ mid), some (.ref S1.length)] (S1 ++ [SO.lst [eH ⟨lo + sL, hi, off⟩, eH ⟨lo, hi + sU, off⟩, eH ⟨lo, hi, off + sU⟩]]) = .nx [some (.ref 0), some (eH ⟨lo, hi, off⟩), some (eQ lo), some (eQ hi), some (eQ off), some (.tup [.int (1 + d), .int 2]), some (eQ (lo + sL)), some (eQ mid), some (.ref (S1.length + 1))] (S1 ++ [SO.lst [eH ⟨lo + sL, hi, off⟩, eH ⟨lo, hi + sU, off⟩, eH ⟨lo, hi, off + sU⟩], SO.lst [eH ⟨lo + sL, hi, off⟩, eH ⟨lo, hi + sU, off⟩, eH ⟨lo, hi, off + sU⟩, eH ⟨mid, hi, off⟩, eH ⟨lo, mid, off⟩, eH ⟨lo, hi, hf⟩]]) := by
    simp [runF, startP, endOf, dRet, dRetN, dIf, dIfS, dB, dBin, dUn, dV, dC, sE, asB, dSeq, dSet, dPar, dPar3, dAsg, dExpr, dAnd, dOr, dNot, bAnd, bOr, bNot, dTru, dCB, dCons, dNil, dTup, dLst, dChain, dPass, fCmpI, fIsN, gTp, gsCons, gsNil, gNm, mkTup, dSl, dPart, dNoPart, lim, iLt, iLe, iGt, iGe, ix_q0, ix_q1, m5, l2, mkLst, h1, ad]
  have st6 : (dExpr (dApp (dV 8) (dCons (dTup (dCons (dV 2) (dCons (dV 3) (dCons (dTup (dCons (dC (.int 0)) (dCons (dC (.int 1)) (dNil)))) (dNil))))) (dNil)))) [some (.ref 0), some (eH ⟨lo, hi, off⟩), some (eQ lo), some (eQ hi), some (eQ off), some (.tup [.int (1 + d), .int 2]), some (eQ (lo + sL)), some (eQ mid), some (.ref (S1.length + 1))] (S1 ++ [SO.lst [eH ⟨lo + sL, hi, off⟩, eH ⟨lo, hi + sU, off⟩, eH ⟨lo, hi, off + sU⟩], SO.lst [eH ⟨lo + sL, hi, off⟩, eH ⟨lo, hi + sU, off⟩, eH ⟨lo, hi, off + sU⟩, eH ⟨mid, hi, off⟩, eH ⟨lo, mid, off⟩, eH ⟨lo, hi, hf⟩]]) = .nx [some (.ref 0), some (eH ⟨lo, hi, off⟩), some (eQ lo), some (eQ hi), some (eQ off), some (.tup [.int (1 + d), .int 2]), some (eQ (lo + sL)), some (eQ mid), some (.ref (S1.length + 1))] S2 := by
    simp [runF, startP, endOf, dRet, dRetN, dIf, dIfS, dB, dBin, dUn, dV, dC, sE, asB, dSeq, dSet, dPar, dPar3, dAsg, dExpr, dAnd, dOr, dNot, bAnd, bOr, bNot, dTru, dCB, dCons, dNil, dTup, dLst, dChain, dPass, fCmpI, fIsN, gTp, gsCons, gsNil, gNm, mkTup, dSl, dPart, dNoPart, lim, iLt, iLe, iGt, iGe, dApp, fApp, ga1, sa1, h0, h1, S2, eL]
  have e0 : F_law_moved_L [.ref 0, eH ⟨lo, hi, off⟩] S = endOf (d_law_moved_L [some (.ref 0), some (eH ⟨lo, hi, off⟩), none, none, none, none, none, none, none] S) := rfl
  rw [e0, d_law_moved_L]
  simp only [dSeq] at *
  simp only [st1, st2, st3, st4, st5, st6]
  simp [runF, startP, endOf, dRet, dRetN, dIf, dIfS, dB, dBin, dUn, dV, dC, sE, asB, dSeq, dSet, dPar, dPar3, dAsg, dExpr, dAnd, dOr, dNot, bAnd, bOr, bNot, dTru, dCB, dCons, dNil, dTup, dLst, dChain, dPass, fCmpI, fIsN, gTp, gsCons, gsNil, gNm, mkTup, dSl, dPart, dNoPart, lim, iLt, iLe, iGt, iGe, e3]
end G72
end
section
set_option Elab.async false
set_option linter.all false
set_option maxRecDepth 100000
set_option maxHeartbeats 4000000
set_option exponentiation.threshold 5000
namespace G72
open PySem PySem.Spec PyProof.Rows L2 Mi Ra
structure PZ (n c : Nat) (p : Pr) : Prop where
  name : NameOk p.name
  ins : ∀ h ∈ p.ins, HZ n h
  lin : p.ins.length ≤ 2 + c
  rows : ∀ r ∈ p.rows, 1 ≤ r.1 ∧ r.1 ≤ 3 + c ∧ HZ n r.2
  lrow : p.rows.length ≤ 2
  out : HZ n p.out
theorem PZ.ok {n c : Nat} {p : Pr} (h : PZ n c p) (hn : n < 10 ^ 300) (hc : c ≤ 4) : PrOk p :=
  ⟨h.name, fun x hx => (h.ins x hx).hg hn, by have := h.lin; omega, fun r hr => ⟨(h.rows r hr).1, by have := (h.rows r hr).2.1; omega, (h.rows r hr).2.2.hg hn⟩, by have := h.lrow; omega, h.out.hg hn⟩
theorem PZ.mono {n m c d : Nat} {p : Pr} (h : PZ n c p) (e : n ≤ m) (f : c ≤ d) : PZ m d p :=
  ⟨h.name, fun x hx => (h.ins x hx).mono e, by have := h.lin; omega, fun r hr => ⟨(h.rows r hr).1, by have := (h.rows r hr).2.1; omega, (h.rows r hr).2.2.mono e⟩, h.lrow, h.out.mono e⟩
theorem up_draw {d : Int} (S : Sto) (h0 : 0 ≤ d) (h1 : d < 3) {ρ : EnP} {S0 : Sto} {dl : EnP → Sto → Res (List PV)} (e : dl ρ S0 = .ok [.int d] S) : iRange dl ρ S0 = .ok ((List.range d.toNat).map fun (i : Nat) => PV.int (i : Int)) S := by
  unfold iRange
  rw [e, Res.bind_ok, ← upTo_map]
  show (if -1000000 ≤ d ∧ d ≤ 1000000 then Res.ok (upTo 0 d.toNat) S else .bad) = _
  rw [if_pos (by omega)]
theorem l_promise {b : Int} {S : Sto} (hk : Hk b S) (hb : b ≤ 900000000) : ∃ p S', F_law_promise_L [.ref 0] S = .ok (ePr p) S' ∧ PZ 1000 0 p ∧ Hk (b + 40) S' := by
  obtain ⟨d, S1, e1, a1, b1, k1⟩ := e_draw (k := 3) hk (by decide) (by decide) (by omega)
  obtain ⟨hs, S2, e2, h2, y2, k2⟩ := lcP_draw (f := cNm 2) (de := dCB F_law_hold_L (dCons (dV 0) (dNil))) (ρ := [some (.ref 0), none, none, none, none]) (fun i : Nat => PV.int (i : Int)) eH (fun _ => True) (HZ 1000) (fun _ => ()) (fun _ => ()) 6
    (fun x S b _ hk hb => by
      obtain ⟨h, S', e, hz, k⟩ := l_hold hk (by omega)
      exact ⟨_, h, S', rfl, by simp [runF, startP, endOf, dRet, dRetN, dIf, dIfS, dB, dBin, dUn, dV, dC, sE, asB, dSeq, dSet, dPar, dPar3, dAsg, dExpr, dAnd, dOr, dNot, bAnd, bOr, bNot, dTru, dCB, dCons, dNil, dTup, dLst, dChain, dPass, fCmpI, fIsN, gTp, gsCons, gsNil, gNm, mkTup, dSl, dPart, dNoPart, lim, iLt, iLe, iGt, iGe, e], hz, rfl, k⟩) (List.range d.toNat) [] S1 (b + 1) (fun _ _ => trivial) k1 (by simp; omega) (by simp; omega)
  have len2 : hs.length = d.toNat := by have := congrArg List.length y2; simpa using this
  obtain ⟨d', S3, e3, a3, b3, k3⟩ := e_draw (k := 3) k2 (by decide) (by decide) (by simp; omega)
  obtain ⟨rs, S4, e4, h4, y4, k4⟩ := lcP_draw (f := cNm 4) (de := dTup (dCons (dBin (fAdd false) (dC (.int 1)) (dCB F_law_draw_L (dCons (dV 0) (dCons (dC (.int 3)) (dNil))))) (dCons (dCB F_law_hold_L (dCons (dV 0) (dNil))) (dNil)))) (ρ := [some (.ref 0), some (.tup (hs.map eH)), none, none, none]) (fun i : Nat => PV.int (i : Int)) eRow (fun _ => True) (fun r => 1 ≤ r.1 ∧ r.1 ≤ 3 ∧ HZ 1000 r.2) (fun _ => ()) (fun _ => ()) 7
    (fun x S b _ hk hb => by
      obtain ⟨d, Sa, ea, aa, ba, ka⟩ := e_draw (k := 3) hk (by decide) (by decide) (by omega)
      obtain ⟨h, S', e, hz, k⟩ := l_hold ka (by omega)
      exact ⟨_, (1 + d, h), S', rfl, by simp [runF, startP, endOf, dRet, dRetN, dIf, dIfS, dB, dBin, dUn, dV, dC, sE, asB, dSeq, dSet, dPar, dPar3, dAsg, dExpr, dAnd, dOr, dNot, bAnd, bOr, bNot, dTru, dCB, dCons, dNil, dTup, dLst, dChain, dPass, fCmpI, fIsN, gTp, gsCons, gsNil, gNm, mkTup, dSl, dPart, dNoPart, lim, iLt, iLe, iGt, iGe, ea, e, w_add, eRow], ⟨by show 1 ≤ 1 + d; omega, by show 1 + d ≤ 3; omega, hz⟩, rfl, k.mono (by omega)⟩) (List.range d'.toNat) [] S3 _ (fun _ _ => trivial) k3 (by simp; omega) (by simp; omega)
  have len4 : rs.length = d'.toNat := by have := congrArg List.length y4; simpa using this
  obtain ⟨nm, hn, S5, e5, k5⟩ := e_any (xs := [.str "a", .str "bb", .str "proc"]) k4 (by simp; omega) (by decide) (by decide)
  have hn' : ∃ s, nm = .str s ∧ NameOk s := by
    simp at hn
    rcases hn with rfl | rfl | rfl
    · exact ⟨_, rfl, .inl rfl⟩
    · exact ⟨_, rfl, .inr (.inr (.inl rfl))⟩
    · exact ⟨_, rfl, .inr (.inr (.inr (.inl rfl)))⟩
  obtain ⟨s, rfl, ns⟩ := hn'
  obtain ⟨o, S6, e6, zo, k6⟩ := l_hold k5 (by simp; omega)
  refine ⟨⟨s, hs, rs, o⟩, S6, ?_, ⟨ns, h2, by show hs.length ≤ 2; omega, h4, by show rs.length ≤ 2; omega, zo⟩, k6.mono (by simp; omega)⟩
  have r1 : iRange (dCons (dCB F_law_draw_L (dCons (dV 0) (dCons (dC (.int 3)) (dNil)))) (dNil)) [some (.ref 0), none, none, none, none] S = .ok ((List.range d.toNat).map fun (i : Nat) => PV.int (i : Int)) S1 := up_draw S1 a1 b1 (by simp [runF, startP, endOf, dRet, dRetN, dIf, dIfS, dB, dBin, dUn, dV, dC, sE, asB, dSeq, dSet, dPar, dPar3, dAsg, dExpr, dAnd, dOr, dNot, bAnd, bOr, bNot, dTru, dCB, dCons, dNil, dTup, dLst, dChain, dPass, fCmpI, fIsN, gTp, gsCons, gsNil, gNm, mkTup, dSl, dPart, dNoPart, lim, iLt, iLe, iGt, iGe, e1])
  have r2 : iRange (dCons (dCB F_law_draw_L (dCons (dV 0) (dCons (dC (.int 3)) (dNil)))) (dNil)) [some (.ref 0), some (.tup (hs.map eH)), none, none, none] S2 = .ok ((List.range d'.toNat).map fun (i : Nat) => PV.int (i : Int)) S3 := up_draw S3 a3 b3 (by simp [runF, startP, endOf, dRet, dRetN, dIf, dIfS, dB, dBin, dUn, dV, dC, sE, asB, dSeq, dSet, dPar, dPar3, dAsg, dExpr, dAnd, dOr, dNot, bAnd, bOr, bNot, dTru, dCB, dCons, dNil, dTup, dLst, dChain, dPass, fCmpI, fIsN, gTp, gsCons, gsNil, gNm, mkTup, dSl, dPart, dNoPart, lim, iLt, iLe, iGt, iGe, e3])
  have w1 : wipeP [some (.ref 0), none, none, none, none] [2] = [some (.ref 0), none, none, none, none] := rfl
  have w2 : ∀ x, wipeP [some (.ref 0), some x, none, none, none] [4] = [some (.ref 0), some x, none, none, none] := fun x => rfl
  rw [List.nil_append] at e2 e4
  have c1 : dLc false (iRange (dCons (dCB F_law_draw_L (dCons (dV 0) (dCons (dC (.int 3)) (dNil)))) (dNil))) (cNm 2) (dYes) (dCB F_law_hold_L (dCons (dV 0) (dNil))) [2] [some (.ref 0), none, none, none, none] S = .ok (.nl (hs.map eH)) S2 := by
    unfold dLc
    rw [r1, Res.bind_ok, w1, e2, Res.bind_ok]
    unfold mkLst
    rw [if_pos (by rw [List.length_map]; unfold lim; omega)]
    rfl
  have c2 : dLc false (iRange (dCons (dCB F_law_draw_L (dCons (dV 0) (dCons (dC (.int 3)) (dNil)))) (dNil))) (cNm 4) (dYes) (dTup (dCons (dBin (fAdd false) (dC (.int 1)) (dCB F_law_draw_L (dCons (dV 0) (dCons (dC (.int 3)) (dNil))))) (dCons (dCB F_law_hold_L (dCons (dV 0) (dNil))) (dNil)))) [4] [some (.ref 0), some (.tup (hs.map eH)), none, none, none] S2 = .ok (.nl (rs.map eRow)) S4 := by
    unfold dLc
    rw [r2, Res.bind_ok, w2, e4, Res.bind_ok]
    unfold mkLst
    rw [if_pos (by rw [List.length_map]; unfold lim; omega)]
    rfl
  have t1 : ∀ S, fTuple [.nl (hs.map eH)] S = .ok (.tup (hs.map eH)) S := fun S => by
    show (if (hs.map eH).length ≤ lim then Res.ok (PV.tup (hs.map eH)) S else .bad) = _
    rw [if_pos (by rw [List.length_map]; unfold lim; omega)]
  have t2 : ∀ S, fTuple [.nl (rs.map eRow)] S = .ok (.tup (rs.map eRow)) S := fun S => by
    show (if (rs.map eRow).length ≤ lim then Res.ok (PV.tup (rs.map eRow)) S else .bad) = _
    rw [if_pos (by rw [List.length_map]; unfold lim; omega)]
  have pe : ePr ⟨s, hs, rs, o⟩ = .tup [.str s, .tup (hs.map eH), .tup (rs.map eRow), eH o] := rfl
  rw [pe]
  generalize hs.map eH = A at *
  generalize rs.map eRow = B at *
  simp [F_law_promise_L, d_law_promise_L, runF, startP, endOf, dRet, dRetN, dIf, dIfS, dB, dBin, dUn, dV, dC, sE, asB, dSeq, dSet, dPar, dPar3, dAsg, dExpr, dAnd, dOr, dNot, bAnd, bOr, bNot, dTru, dCB, dCons, dNil, dTup, dLst, dChain, dPass, fCmpI, fIsN, gTp, gsCons, gsNil, gNm, mkTup, dSl, dPart, dNoPart, lim, iLt, iLe, iGt, iGe, c1, t1, c2, t2, e5, e6, mkLst]
/-! ### near ones -/
theorem ix_tup {xs : List PV} {d : Int} {S : Sto} (h0 : 0 ≤ d) (hl : d.toNat < xs.length) : fIx (.tup xs) (.int d) S = .ok xs[d.toNat] S := by
  have e : atI xs d = some xs[d.toNat] := by
    unfold atI ixN
    rw [if_pos h0, if_pos (by omega)]
    simp [hl]
  show (match atI xs d with | some v => Res.ok v S | none => .bad) = _
  rw [e]
theorem sl_to {xs : List PV} {d : Int} {S : Sto} (h0 : 0 ≤ d) (hl : d.toNat ≤ xs.length) (hs : xs.length ≤ 1000) : fSl false (.tup xs) none (some d) S = .ok (.tup (xs.take d.toNat)) S := by
  show mkTup (cutP xs none (some d)) S = _
  have c : cutP xs none (some d) = xs.take d.toNat := by
    unfold cutP
    have a : HT.sIx xs.length 0 none = 0 := rfl
    have b : HT.sIx xs.length xs.length (some d) = min d.toNat xs.length := by
      have q := HT.sIx_nat xs.length xs.length d.toNat
      rwa [Int.toNat_of_nonneg h0] at q
    rw [a, b, List.drop_zero, Nat.sub_zero, Nat.min_eq_left hl]
  rw [c]
  unfold mkTup
  rw [if_pos (by rw [List.length_take]; unfold lim; omega)]
theorem sl_from {xs : List PV} {d : Int} {S : Sto} (h0 : 0 ≤ d) (hl : d.toNat ≤ xs.length) (hs : xs.length ≤ 1000) : fSl false (.tup xs) (some d) none S = .ok (.tup (xs.drop d.toNat)) S := by
  show mkTup (cutP xs (some d) none) S = _
  have c : cutP xs (some d) none = xs.drop d.toNat := by
    unfold cutP
    have b : HT.sIx xs.length xs.length none = xs.length := rfl
    have a : HT.sIx xs.length 0 (some d) = min d.toNat xs.length := by
      have q := HT.sIx_nat xs.length 0 d.toNat
      rwa [Int.toNat_of_nonneg h0] at q
    rw [a, b, Nat.min_eq_left hl, List.take_of_length_le (by rw [List.length_drop]; omega)]
  rw [c]
  unfold mkTup
  rw [if_pos (by rw [List.length_drop]; unfold lim; omega)]
theorem add_tup {xs ys : List PV} {S : Sto} (h : xs.length + ys.length ≤ 1000) : fAdd false (.tup xs) (.tup ys) S = .ok (.tup (xs ++ ys)) S := by
  show mkTup (xs ++ ys) S = _
  unfold mkTup
  rw [if_pos (by rw [List.length_append]; unfold lim; omega)]
theorem len_tup (xs : List PV) (S : Sto) : fLen [.tup xs] S = .ok (.int (xs.length : Int)) S := rfl
/-- one item otherwise -/
def putAt {α : Type} (xs : List α) (i : Nat) (y : α) : List α := xs.take i ++ y :: xs.drop (i + 1)
theorem putAt_mem {α : Type} {xs : List α} {i : Nat} {y x : α} (h : x ∈ putAt xs i y) : x = y ∨ x ∈ xs := by
  unfold putAt at h
  rcases List.mem_append.mp h with h | h
  · exact .inr (List.mem_of_mem_take h)
  · rcases List.mem_cons.mp h with h | h
    · exact .inl h
    · exact .inr (List.mem_of_mem_drop h)
theorem putAt_len {α : Type} {xs : List α} {i : Nat} {y : α} (h : i < xs.length) : (putAt xs i y).length = xs.length := by
  unfold putAt
  simp
  omega
theorem put_is {α : Type} (f : α → PV) {xs : List α} {d : Int} {y : α} {S : Sto} (h0 : 0 ≤ d) (hl : d.toNat < xs.length) (hs : xs.length ≤ 100) :
    fAdd false (.tup ((xs.map f).take d.toNat)) (.tup [f y]) S = .ok (.tup ((xs.map f).take d.toNat ++ [f y])) S ∧
    fAdd false (.tup ((xs.map f).take d.toNat ++ [f y])) (.tup ((xs.map f).drop (d + 1).toNat)) S = .ok (.tup ((putAt xs d.toNat y).map f)) S := by
  refine ⟨add_tup (by simp; omega), ?_⟩
  rw [add_tup (by simp; omega)]
  have e : (d + 1).toNat = d.toNat + 1 := by omega
  rw [e]
  unfold putAt
  simp [List.map_take, List.map_drop]
def nrC : EnP → Sto → SR := (dIfS (bAnd (dB (dBin (fCmpI iLt) (dV 6) (dC (.int 3)))) (dB (dBin (fCmpI iGt) (dCB fLen (dCons (dV 3) (dNil))) (dC (.int 0))))) (dSeq (dSet 7 (dCB F_law_draw_L (dCons (dV 0) (dCons (dCB fLen (dCons (dV 3) (dNil))) (dNil))))) (dSet 3 (dBin (fAdd false) (dBin (fAdd false) (dSl false (dV 3) (dNoPart) (dPart (dV 7))) (dTup (dCons (dCB F_law_moved_L (dCons (dV 0) (dCons (dBin fIx (dV 3) (dV 7)) (dNil)))) (dNil)))) (dSl false (dV 3) (dPart (dBin (fAdd false) (dV 7) (dC (.int 1)))) (dNoPart))))) (dIfS (bAnd (dB (dBin (fCmpI iLt) (dV 6) (dC (.int 5)))) (dB (dBin (fCmpI iGt) (dCB fLen (dCons (dV 4) (dNil))) (dC (.int 0))))) (dSeq (dSet 7 (dCB F_law_draw_L (dCons (dV 0) (dCons (dCB fLen (dCons (dV 4) (dNil))) (dNil))))) (dSeq (dSet 8 (dTup (dCons (dBin fIx (dBin fIx (dV 4) (dV 7)) (dC (.int 0))) (dCons (dCB F_law_moved_L (dCons (dV 0) (dCons (dBin fIx (dBin fIx (dV 4) (dV 7)) (dC (.int 1))) (dNil)))) (dNil))))) (dSet 4 (dBin (fAdd false) (dBin (fAdd false) (dSl false (dV 4) (dNoPart) (dPart (dV 7))) (dTup (dCons (dV 8) (dNil)))) (dSl false (dV 4) (dPart (dBin (fAdd false) (dV 7) (dC (.int 1)))) (dNoPart)))))) (dIfS (dB (dBin (fEq false) (dV 6) (dC (.int 5)))) (dSet 5 (dCB F_law_moved_L (dCons (dV 0) (dCons (dV 5) (dNil))))) (dIfS (dB (dBin (fEq false) (dV 6) (dC (.int 6)))) (dSet 3 (dCB F_law_any_L (dCons (dV 0) (dCons (dLst false (dCons (dSl false (dV 3) (dPart (dC (.int 1))) (dNoPart)) (dCons (dBin (fAdd false) (dV 3) (dTup (dCons (dCB F_law_hold_L (dCons (dV 0) (dNil))) (dNil)))) (dNil)))) (dNil))))) (dIfS (bAnd (dB (dBin (fEq false) (dV 6) (dC (.int 7)))) (dB (dBin (fCmpI iGt) (dCB fLen (dCons (dV 4) (dNil))) (dC (.int 0))))) (dSet 4 (dCB F_law_any_L (dCons (dV 0) (dCons (dLst false (dCons (dSl false (dV 4) (dPart (dC (.int 1))) (dNoPart)) (dCons (dBin (fAdd false) (dTup (dCons (dTup (dCons (dBin (fAdd false) (dBin fIx (dBin fIx (dV 4) (dC (.int 0))) (dC (.int 0))) (dC (.int 1))) (dCons (dBin fIx (dBin fIx (dV 4) (dC (.int 0))) (dC (.int 1))) (dNil)))) (dNil))) (dSl false (dV 4) (dPart (dC (.int 1))) (dNoPart))) (dNil)))) (dNil))))) (dPass))))))
end G72
end
section
set_option Elab.async false
set_option linter.all false
set_option maxRecDepth 100000
set_option maxHeartbeats 4000000
set_option exponentiation.threshold 5000
namespace G72
open PySem PySem.Spec PyProof.Rows L2 Mi Ra
theorem sl_1 {xs : List PV} {S : Sto} (hs : xs.length ≤ 1000) : fSl false (.tup xs) (some 1) none S = .ok (.tup (xs.drop 1)) S := by
  cases xs with
  | nil => rfl
  | cons x xs => exact sl_from (d := 1) (by decide) (by simp) hs
/-- what the middle of near does -/
structure NrOut (n c : Nat) (b : Int) (p q : Pr) (S' : Sto) : Prop where
  z : PZ (4 * n * n) (c + 1) q
  nm : q.name = p.name
  k : Hk (b + 8) S'
theorem near_mid {b : Int} {n c : Nat} {p : Pr} {S : Sto} {w : Int} (hk : Hk b S) (hb : b ≤ 950000000) (hz : PZ n c p) (n0 : 1000 ≤ n) (n1 : n ≤ 10 ^ 60) (c1 : c ≤ 4) (w0 : 0 ≤ w) (w1 : w < 8) :
    ∃ q S' a7 a8, nrC [some (.ref 0), some (ePr p), some (.str p.name), some (eI p), some (eR p), some (eH p.out), some (.int w), none, none] S = .nx [some (.ref 0), some (ePr p), some (.str q.name), some (eI q), some (eR q), some (eH q.out), some (.int w), a7, a8] S' ∧ NrOut n c b p q S' := by
  have nn : n ≤ 4 * n * n := by
    have : n * 1 ≤ n * (4 * n) := Nat.mul_le_mul_left n (by omega)
    rw [Nat.mul_comm n (4 * n)] at this
    omega
  have zz : PZ (4 * n * n) (c + 1) p := hz.mono nn (by omega)
  have li : ∀ S, fLen [eI p] S = .ok (.int (p.ins.length : Int)) S := len_I p
  have lr : ∀ S, fLen [eR p] S = .ok (.int (p.rows.length : Int)) S := fun S => by
    show Res.ok (PV.int (((p.rows.map eRow).length : Nat) : Int)) S = _
    rw [List.length_map]
  have hin := hz.lin
  have hrn := hz.lrow
  by_cases cA : w < 3 ∧ 0 < p.ins.length
  · obtain ⟨cw, ci⟩ := cA
    have ci' : (0 : Int) < (p.ins.length : Int) := by omega
    obtain ⟨d, S1, e1, a1, b1, k1⟩ := e_draw (k := p.ins.length) hk (by omega) (by omega) (by omega)
    have dl : d.toNat < p.ins.length := by omega
    have hh := hz.ins _ (List.getElem_mem dl)
    obtain ⟨g, S2, e2, zg, k2⟩ := l_moved k1 (by omega) hh n0 n1
    have x1 : ∀ S, fIx (eI p) (.int d) S = .ok (eH p.ins[d.toNat]) S := fun S => by
      have := ix_tup (xs := p.ins.map eH) (S := S) a1 (by simpa using dl)
      rw [List.getElem_map] at this
      exact this
    have s1 : ∀ S, fSl false (eI p) none (some d) S = .ok (.tup ((p.ins.map eH).take d.toNat)) S := fun S => sl_to a1 (by simp; omega) (by simp; omega)
    have s2 : ∀ S, fSl false (eI p) (some (d + 1)) none S = .ok (.tup ((p.ins.map eH).drop (d + 1).toNat)) S := fun S => sl_from (by omega) (by simp; omega) (by simp; omega)
    have pu := fun S => put_is eH (xs := p.ins) (y := g) (S := S) a1 dl (by omega)
    have pu1 := fun S => (pu S).1
    have pu2 := fun S => (pu S).2
    refine ⟨⟨p.name, putAt p.ins d.toNat g, p.rows, p.out⟩, S2, some (.int d), none, ?_, ⟨⟨zz.name, fun x hx => ?_, by show (putAt p.ins d.toNat g).length ≤ _; rw [putAt_len dl]; omega, zz.rows, zz.lrow, zz.out⟩, rfl, k2.mono (by omega)⟩⟩
    · have ei : eI ⟨p.name, putAt p.ins d.toNat g, p.rows, p.out⟩ = .tup ((putAt p.ins d.toNat g).map eH) := rfl
      have er : eR ⟨p.name, putAt p.ins d.toNat g, p.rows, p.out⟩ = eR p := rfl
      rw [ei, er]
      generalize (putAt p.ins d.toNat g).map eH = X at *
      generalize PV.tup ((p.ins.map eH).take d.toNat) = Y1 at *
      generalize PV.tup ((p.ins.map eH).drop (d + 1).toNat) = Y2 at *
      simp [nrC, runF, startP, endOf, dRet, dRetN, dIf, dIfS, dB, dBin, dUn, dV, dC, sE, asB, dSeq, dSet, dPar, dPar3, dAsg, dExpr, dAnd, dOr, dNot, bAnd, bOr, bNot, dTru, dCB, dCons, dNil, dTup, dLst, dChain, dPass, fCmpI, fIsN, gTp, gsCons, gsNil, gNm, mkTup, dSl, dPart, dNoPart, lim, iLt, iLe, iGt, iGe, li, cw, ci, ci', e1, x1, e2, s1, s2, pu1, pu2, w_add]
    · rcases putAt_mem hx with rfl | h
      · exact zg
      · exact zz.ins _ h
  by_cases cB : w < 5 ∧ 0 < p.rows.length
  · obtain ⟨cw, ci⟩ := cB
    have ci' : (0 : Int) < (p.rows.length : Int) := by omega
    obtain ⟨d, S1, e1, a1, b1, k1⟩ := e_draw (k := p.rows.length) hk (by omega) (by omega) (by omega)
    have dl : d.toNat < p.rows.length := by omega
    obtain ⟨r0, r1, hh⟩ := hz.rows _ (List.getElem_mem dl)
    obtain ⟨g, S2, e2, zg, k2⟩ := l_moved k1 (by omega) hh n0 n1
    have x1 : ∀ S, fIx (eR p) (.int d) S = .ok (eRow p.rows[d.toNat]) S := fun S => by
      have := ix_tup (xs := p.rows.map eRow) (S := S) a1 (by simpa using dl)
      rw [List.getElem_map] at this
      exact this
    have s1 : ∀ S, fSl false (eR p) none (some d) S = .ok (.tup ((p.rows.map eRow).take d.toNat)) S := fun S => sl_to a1 (by simp; omega) (by simp; omega)
    have s2 : ∀ S, fSl false (eR p) (some (d + 1)) none S = .ok (.tup ((p.rows.map eRow).drop (d + 1).toNat)) S := fun S => sl_from (by omega) (by simp; omega) (by simp; omega)
    have pu := fun S => put_is eRow (xs := p.rows) (y := ((p.rows[d.toNat]).1, g)) (S := S) a1 dl (by omega)
    have pu1 := fun S => (pu S).1
    have pu2 := fun S => (pu S).2
    have er' : eRow ((p.rows[d.toNat]).1, g) = .tup [.int (p.rows[d.toNat]).1, eH g] := rfl
    refine ⟨⟨p.name, p.ins, putAt p.rows d.toNat ((p.rows[d.toNat]).1, g), p.out⟩, S2, some (.int d), some (eRow ((p.rows[d.toNat]).1, g)), ?_, ⟨⟨zz.name, zz.ins, zz.lin, fun x hx => ?_, by show (putAt p.rows d.toNat _).length ≤ _; rw [putAt_len dl]; omega, zz.out⟩, rfl, k2.mono (by omega)⟩⟩
    · have ei : eR ⟨p.name, p.ins, putAt p.rows d.toNat ((p.rows[d.toNat]).1, g), p.out⟩ = .tup ((putAt p.rows d.toNat ((p.rows[d.toNat]).1, g)).map eRow) := rfl
      have er : eI ⟨p.name, p.ins, putAt p.rows d.toNat ((p.rows[d.toNat]).1, g), p.out⟩ = eI p := rfl
      rw [ei, er]
      rw [er'] at pu1 pu2 ⊢
      generalize (putAt p.rows d.toNat ((p.rows[d.toNat]).1, g)).map eRow = X at *
      generalize PV.tup ((p.rows.map eRow).take d.toNat) = Y1 at *
      generalize PV.tup ((p.rows.map eRow).drop (d + 1).toNat) = Y2 at *
      by_cases w3 : w < 3
      · have l0 : p.ins.length = 0 := by omega
        simp [nrC, runF, startP, endOf, dRet, dRetN, dIf, dIfS, dB, dBin, dUn, dV, dC, sE, asB, dSeq, dSet, dPar, dPar3, dAsg, dExpr, dAnd, dOr, dNot, bAnd, bOr, bNot, dTru, dCB, dCons, dNil, dTup, dLst, dChain, dPass, fCmpI, fIsN, gTp, gsCons, gsNil, gNm, mkTup, dSl, dPart, dNoPart, lim, iLt, iLe, iGt, iGe, li, lr, w3, l0, cw, ci, ci', e1, x1, ix_r0, ix_r1, e2, s1, s2, pu1, pu2, w_add]
      · simp [nrC, runF, startP, endOf, dRet, dRetN, dIf, dIfS, dB, dBin, dUn, dV, dC, sE, asB, dSeq, dSet, dPar, dPar3, dAsg, dExpr, dAnd, dOr, dNot, bAnd, bOr, bNot, dTru, dCB, dCons, dNil, dTup, dLst, dChain, dPass, fCmpI, fIsN, gTp, gsCons, gsNil, gNm, mkTup, dSl, dPart, dNoPart, lim, iLt, iLe, iGt, iGe, li, lr, w3, cw, ci, ci', e1, x1, ix_r0, ix_r1, e2, s1, s2, pu1, pu2, w_add]
    · rcases putAt_mem hx with rfl | h
      · exact ⟨r0, by show (p.rows[d.toNat]).1 ≤ _; omega, zg⟩
      · exact zz.rows _ h
  -- neither
  have pa : ∀ {x : Option PV} (rest : SR) (S : Sto), w < 5 → p.rows.length = 0 ∧ (w < 3 → p.ins.length = 0) := fun {x} _ _ h => ⟨by omega, fun h3 => by omega⟩
  by_cases c5 : w = 5
  · subst c5
    obtain ⟨g, S2, e2, zg, k2⟩ := l_moved hk (by omega) hz.out n0 n1
    refine ⟨⟨p.name, p.ins, p.rows, g⟩, S2, none, none, ?_, ⟨⟨zz.name, zz.ins, zz.lin, zz.rows, zz.lrow, zg⟩, rfl, k2.mono (by omega)⟩⟩
    have ei : eI ⟨p.name, p.ins, p.rows, g⟩ = eI p := rfl
    have er : eR ⟨p.name, p.ins, p.rows, g⟩ = eR p := rfl
    rw [ei, er]
    simp [nrC, runF, startP, endOf, dRet, dRetN, dIf, dIfS, dB, dBin, dUn, dV, dC, sE, asB, dSeq, dSet, dPar, dPar3, dAsg, dExpr, dAnd, dOr, dNot, bAnd, bOr, bNot, dTru, dCB, dCons, dNil, dTup, dLst, dChain, dPass, fCmpI, fIsN, gTp, gsCons, gsNil, gNm, mkTup, dSl, dPart, dNoPart, lim, iLt, iLe, iGt, iGe, w_eq, e2]
  by_cases c6 : w = 6
  · subst c6
    obtain ⟨h, S1, e1, zh, k1⟩ := l_hold hk (by omega)
    obtain ⟨y, hy, S2, e2, k2⟩ := e_any (xs := [.tup ((p.ins.map eH).drop 1), .tup (p.ins.map eH ++ [eH h])]) k1 (by omega) (by simp) (by simp)
    have hy' : ∃ I : List Hd, y = .tup (I.map eH) ∧ (∀ x ∈ I, HZ (4 * n * n) x) ∧ I.length ≤ 2 + (c + 1) := by
      simp only [List.mem_cons, List.not_mem_nil, or_false] at hy
      rcases hy with rfl | rfl
      · exact ⟨p.ins.drop 1, by rw [List.map_drop], fun x hx => zz.ins x (List.mem_of_mem_drop hx), by simp; omega⟩
      · refine ⟨p.ins ++ [h], by simp, fun x hx => ?_, by simp; omega⟩
        rcases List.mem_append.mp hx with hx | hx
        · exact zz.ins x hx
        · have : x = h := by simpa using hx
          rw [this]
          exact zh.mono (by omega)
    obtain ⟨I, rfl, hI, lI⟩ := hy'
    refine ⟨⟨p.name, I, p.rows, p.out⟩, S2, none, none, ?_, ⟨⟨zz.name, hI, lI, zz.rows, zz.lrow, zz.out⟩, rfl, k2.mono (by omega)⟩⟩
    have ei : eI ⟨p.name, I, p.rows, p.out⟩ = .tup (I.map eH) := rfl
    have er : eR ⟨p.name, I, p.rows, p.out⟩ = eR p := rfl
    have s1 : ∀ S, fSl false (eI p) (some 1) none S = .ok (.tup ((p.ins.map eH).drop 1)) S := fun S => sl_1 (by simp; omega)
    have s2 : ∀ S, fAdd false (eI p) (.tup [eH h]) S = .ok (.tup (p.ins.map eH ++ [eH h])) S := fun S => add_tup (by simp; omega)
    rw [ei, er]
    generalize I.map eH = X at *
    generalize PV.tup ((p.ins.map eH).drop 1) = Y1 at *
    generalize PV.tup (p.ins.map eH ++ [eH h]) = Y2 at *
    simp [nrC, runF, startP, endOf, dRet, dRetN, dIf, dIfS, dB, dBin, dUn, dV, dC, sE, asB, dSeq, dSet, dPar, dPar3, dAsg, dExpr, dAnd, dOr, dNot, bAnd, bOr, bNot, dTru, dCB, dCons, dNil, dTup, dLst, dChain, dPass, fCmpI, fIsN, gTp, gsCons, gsNil, gNm, mkTup, dSl, dPart, dNoPart, lim, iLt, iLe, iGt, iGe, w_eq, e1, s1, s2, mkLst, e2]
  by_cases c7 : w = 7 ∧ 0 < p.rows.length
  · obtain ⟨rfl, ci⟩ := c7
    obtain ⟨nm, ins, rows, out⟩ := p
    cases rows with
    | nil => simp at ci
    | cons r rs =>
      obtain ⟨r0, r1, hh⟩ := zz.rows r List.mem_cons_self
      obtain ⟨y, hy, S2, e2, k2⟩ := e_any (xs := [.tup (rs.map eRow), .tup (eRow (r.1 + 1, r.2) :: rs.map eRow)]) hk (by omega) (by simp) (by simp)
      have hrs : ∀ x ∈ rs, 1 ≤ x.1 ∧ x.1 ≤ 3 + ((c + 1 : Nat) : Int) ∧ HZ (4 * n * n) x.2 := fun x hx => zz.rows x (List.mem_cons_of_mem _ hx)
      have lrs : rs.length ≤ 1 := by have : (r :: rs).length ≤ 2 := hrn; simp at this; omega
      have hr3 : r.1 ≤ 3 + (c : Int) := (hz.rows r List.mem_cons_self).2.1
      have hy' : ∃ R : List (Int × Hd), y = .tup (R.map eRow) ∧ (∀ x ∈ R, 1 ≤ x.1 ∧ x.1 ≤ 3 + ((c + 1 : Nat) : Int) ∧ HZ (4 * n * n) x.2) ∧ R.length ≤ 2 := by
        simp only [List.mem_cons, List.not_mem_nil, or_false] at hy
        rcases hy with rfl | rfl
        · exact ⟨rs, rfl, hrs, by omega⟩
        · refine ⟨(r.1 + 1, r.2) :: rs, rfl, fun x hx => ?_, by simp; omega⟩
          rcases List.mem_cons.mp hx with rfl | hx
          · exact ⟨by show 1 ≤ r.1 + 1; omega, by show r.1 + 1 ≤ _; omega, hh⟩
          · exact hrs x hx
      obtain ⟨R, rfl, hR, lR⟩ := hy'
      refine ⟨⟨nm, ins, R, out⟩, S2, none, none, ?_, ⟨⟨zz.name, zz.ins, zz.lin, hR, lR, zz.out⟩, rfl, k2.mono (by omega)⟩⟩
      have ei : eR ⟨nm, ins, R, out⟩ = .tup (R.map eRow) := rfl
      have er : eI ⟨nm, ins, R, out⟩ = eI ⟨nm, ins, r :: rs, out⟩ := rfl
      have s1 : ∀ S, fSl false (eR ⟨nm, ins, r :: rs, out⟩) (some 1) none S = .ok (.tup (rs.map eRow)) S := fun S => sl_1 (xs := (r :: rs).map eRow) (by simp; omega)
      have x0 : ∀ S, fIx (eR ⟨nm, ins, r :: rs, out⟩) (.int 0) S = .ok (eRow r) S := fun S => ix_tup (xs := (r :: rs).map eRow) (d := 0) (by decide) (by simp)
      have s2 : ∀ S, fAdd false (.tup [.tup [.int (r.1 + 1), eH r.2]]) (.tup (rs.map eRow)) S = .ok (.tup (eRow (r.1 + 1, r.2) :: rs.map eRow)) S := fun S => add_tup (by simp; omega)
      rw [ei, er]
      have ci2 : (0 : Int) < ((r :: rs).length : Int) := by rw [List.length_cons]; omega
      generalize (r :: rs).length = LL at *
      generalize R.map eRow = X at *
      generalize PV.tup (eRow (r.1 + 1, r.2) :: rs.map eRow) = Y2 at *
      generalize PV.tup (rs.map eRow) = Y1 at *
      simp [nrC, runF, startP, endOf, dRet, dRetN, dIf, dIfS, dB, dBin, dUn, dV, dC, sE, asB, dSeq, dSet, dPar, dPar3, dAsg, dExpr, dAnd, dOr, dNot, bAnd, bOr, bNot, dTru, dCB, dCons, dNil, dTup, dLst, dChain, dPass, fCmpI, fIsN, gTp, gsCons, gsNil, gNm, mkTup, dSl, dPart, dNoPart, lim, iLt, iLe, iGt, iGe, w_eq, lr, ci, ci2, x0, ix_r0, ix_r1, w_add, s1, s2, mkLst, e2]
  · refine ⟨p, S, none, none, ?_, ⟨zz, rfl, hk.mono (by omega)⟩⟩
    have e5 : (w == 5) = false := beq_eq_false_iff_ne.mpr c5
    have e6 : (w == 6) = false := beq_eq_false_iff_ne.mpr c6
    have f5 : ∀ S, fEq false (.int w) (.int 5) S = .ok (.bl false) S := fun S => by rw [w_eq, e5]; rfl
    have f6 : ∀ S, fEq false (.int w) (.int 6) S = .ok (.bl false) S := fun S => by rw [w_eq, e6]; rfl
    by_cases w7 : w = 7
    · subst w7
      have l0 : p.rows.length = 0 := by
        have : ¬ 0 < p.rows.length := fun z => c7 ⟨rfl, z⟩
        omega
      simp [nrC, runF, startP, endOf, dRet, dRetN, dIf, dIfS, dB, dBin, dUn, dV, dC, sE, asB, dSeq, dSet, dPar, dPar3, dAsg, dExpr, dAnd, dOr, dNot, bAnd, bOr, bNot, dTru, dCB, dCons, dNil, dTup, dLst, dChain, dPass, fCmpI, fIsN, gTp, gsCons, gsNil, gNm, mkTup, dSl, dPart, dNoPart, lim, iLt, iLe, iGt, iGe, w_eq, lr, l0]
    · have e7 : (w == 7) = false := beq_eq_false_iff_ne.mpr w7
      have f7 : ∀ S, fEq false (.int w) (.int 7) S = .ok (.bl false) S := fun S => by rw [w_eq, e7]; rfl
      have w5 : w < 5 := by omega
      have l0 : p.rows.length = 0 := by omega
      by_cases w3 : w < 3
      · have i0 : p.ins.length = 0 := by omega
        simp [nrC, runF, startP, endOf, dRet, dRetN, dIf, dIfS, dB, dBin, dUn, dV, dC, sE, asB, dSeq, dSet, dPar, dPar3, dAsg, dExpr, dAnd, dOr, dNot, bAnd, bOr, bNot, dTru, dCB, dCons, dNil, dTup, dLst, dChain, dPass, fCmpI, fIsN, gTp, gsCons, gsNil, gNm, mkTup, dSl, dPart, dNoPart, lim, iLt, iLe, iGt, iGe, f5, f6, f7, li, lr, l0, i0, w3, w5]
      · simp [nrC, runF, startP, endOf, dRet, dRetN, dIf, dIfS, dB, dBin, dUn, dV, dC, sE, asB, dSeq, dSet, dPar, dPar3, dAsg, dExpr, dAnd, dOr, dNot, bAnd, bOr, bNot, dTru, dCB, dCons, dNil, dTup, dLst, dChain, dPass, fCmpI, fIsN, gTp, gsCons, gsNil, gNm, mkTup, dSl, dPart, dNoPart, lim, iLt, iLe, iGt, iGe, f5, f6, f7, li, lr, l0, w3, w5]
theorem l_near {b : Int} {n c : Nat} {p : Pr} {S : Sto} (hk : Hk b S) (hb : b ≤ 900000000) (hz : PZ n c p) (n0 : 1000 ≤ n) (n1 : n ≤ 10 ^ 60) (c1 : c ≤ 4) : ∃ q S', F_law_near_L [.ref 0, ePr p] S = .ok (ePr q) S' ∧ PZ (4 * n * n) (c + 1) q ∧ Hk (b + 20) S' := by
  obtain ⟨w, S1, e1, a1, b1, k1⟩ := e_draw (k := 8) hk (by decide) (by decide) (by omega)
  obtain ⟨q, S2, a7, a8, em, o⟩ := near_mid k1 (by omega) hz n0 n1 c1 a1 b1
  obtain ⟨nm, hn, S3, e3, k3⟩ := e_any (xs := [.str q.name, .str "other"]) o.k (by omega) (by simp) (by simp)
  have hn' : ∃ s, nm = .str s ∧ NameOk s := by
    simp only [List.mem_cons, List.not_mem_nil, or_false] at hn
    rcases hn with rfl | rfl
    · exact ⟨_, rfl, o.z.name⟩
    · exact ⟨_, rfl, .inr (.inr (.inr (.inr rfl)))⟩
  obtain ⟨s, rfl, hs⟩ := hn'
  refine ⟨⟨s, q.ins, q.rows, q.out⟩, S3, ?_, ⟨hs, o.z.ins, o.z.lin, o.z.rows, o.z.lrow, o.z.out⟩, k3.mono (by omega)⟩
  have e0 : F_law_near_L [.ref 0, ePr p] S = endOf (d_law_near_L [some (.ref 0), some (ePr p), none, none, none, none, none, none, none] S) := rfl
  have dd : d_law_near_L = dSeq (dAsg (dV 1) (gTp 4 (gsCons (gNm 2) (gsCons (gNm 3) (gsCons (gNm 4) (gsCons (gNm 5) (gsNil))))))) (dSeq (dSet 6 (dCB F_law_draw_L (dCons (dV 0) (dCons (dC (.int 8)) (dNil))))) (dSeq nrC (dRet (dTup (dCons (dCB F_law_any_L (dCons (dV 0) (dCons (dLst false (dCons (dV 2) (dCons (dC (.str ("other" : Str))) (dNil)))) (dNil)))) (dCons (dV 3) (dCons (dV 4) (dCons (dV 5) (dNil))))))))) := rfl
  have st1 : (dAsg (dV 1) (gTp 4 (gsCons (gNm 2) (gsCons (gNm 3) (gsCons (gNm 4) (gsCons (gNm 5) (gsNil))))))) [some (.ref 0), some (ePr p), none, none, none, none, none, none, none] S = .nx [some (.ref 0), some (ePr p), some (.str p.name), some (eI p), some (eR p), some (eH p.out), none, none, none] S := rfl
  have st2 : (dSet 6 (dCB F_law_draw_L (dCons (dV 0) (dCons (dC (.int 8)) (dNil))))) [some (.ref 0), some (ePr p), some (.str p.name), some (eI p), some (eR p), some (eH p.out), none, none, none] S = .nx [some (.ref 0), some (ePr p), some (.str p.name), some (eI p), some (eR p), some (eH p.out), some (.int w), none, none] S1 := by simp [runF, startP, endOf, dRet, dRetN, dIf, dIfS, dB, dBin, dUn, dV, dC, sE, asB, dSeq, dSet, dPar, dPar3, dAsg, dExpr, dAnd, dOr, dNot, bAnd, bOr, bNot, dTru, dCB, dCons, dNil, dTup, dLst, dChain, dPass, fCmpI, fIsN, gTp, gsCons, gsNil, gNm, mkTup, dSl, dPart, dNoPart, lim, iLt, iLe, iGt, iGe, e1]
  have pe : ePr ⟨s, q.ins, q.rows, q.out⟩ = .tup [.str s, eI q, eR q, eH q.out] := rfl
  rw [e0, dd, pe]
  simp only [dSeq, st1, st2, em]
  simp [runF, startP, endOf, dRet, dRetN, dIf, dIfS, dB, dBin, dUn, dV, dC, sE, asB, dSeq, dSet, dPar, dPar3, dAsg, dExpr, dAnd, dOr, dNot, bAnd, bOr, bNot, dTru, dCB, dCons, dNil, dTup, dLst, dChain, dPass, fCmpI, fIsN, gTp, gsCons, gsNil, gNm, mkTup, dSl, dPart, dNoPart, lim, iLt, iLe, iGt, iGe, mkLst, e3]
end G72
end
section
set_option Elab.async false
set_option linter.all false
set_option maxRecDepth 100000
set_option maxHeartbeats 4000000
set_option exponentiation.threshold 5000
namespace G72
open PySem PySem.Spec PyProof.Rows L2 Mi Ra
/-! ### backing leads on -/
theorem cov_refl (a : Hd) : covB a a = true := by simp [covB, Rat.le_refl]
theorem cov_trans {a b c : Hd} (h : covB a b = true) (k : covB b c = true) : covB a c = true := by
  simp only [covB, Bool.and_eq_true, decide_eq_true_eq] at *
  exact ⟨Rat.le_trans h.1 k.1, Rat.le_trans k.2.1 h.2.1, Rat.le_trans k.2.2 h.2.2⟩
theorem cov_anti {a b : Hd} (h : covB a b = true) (k : covB b a = true) : a = b := by
  simp only [covB, Bool.and_eq_true, decide_eq_true_eq] at *
  obtain ⟨a1, a2, a3⟩ := a
  obtain ⟨b1, b2, b3⟩ := b
  have e1 : a1 = b1 := Rat.le_antisymm h.1 k.1
  have e2 : a2 = b2 := Rat.le_antisymm k.2.1 h.2.1
  have e3 : a3 = b3 := Rat.le_antisymm k.2.2 h.2.2
  rw [e1, e2, e3]
theorem all_zip {α : Type} (f : α → α → Bool) : ∀ (xs ys : List α), xs.length = ys.length → ((xs.zip ys).all (fun z => f z.1 z.2) = true ↔ ∀ (i : Nat) (h1 : i < xs.length) (h2 : i < ys.length), f xs[i] ys[i] = true)
  | [], [], _ => by simp
  | [], _ :: _, h => by simp at h
  | _ :: _, [], h => by simp at h
  | x :: xs, y :: ys, h => by
    have ih := all_zip f xs ys (by simpa using h)
    rw [List.zip_cons_cons, List.all_cons, Bool.and_eq_true, ih]
    constructor
    · rintro ⟨h0, hr⟩ i h1 h2
      cases i with
      | zero => exact h0
      | succ i => exact hr i (by simpa using h1) (by simpa using h2)
    · intro hh
      exact ⟨hh 0 (by simp) (by simp), fun i h1 h2 => hh (i + 1) (by simpa using h1) (by simpa using h2)⟩
structure Backs (p q : Pr) : Prop where
  l : p.ins.length = q.ins.length
  hd : p.rows.map (·.1) = q.rows.map (·.1)
  ins : ∀ (i : Nat) (h1 : i < p.ins.length) (h2 : i < q.ins.length), covB p.ins[i] q.ins[i] = true
  rows : ∀ (i : Nat) (h1 : i < p.rows.length) (h2 : i < q.rows.length), covB p.rows[i].2 q.rows[i].2 = true
  out : covB q.out p.out = true
theorem backs_iff (p q : Pr) : backsB p q = true ↔ Backs p q := by
  unfold backsB alike pairs rpairs
  simp only [Bool.and_eq_true, decide_eq_true_eq]
  constructor
  · rintro ⟨⟨h1, h2⟩, h3, h4, h5⟩
    have lr : p.rows.length = q.rows.length := by have := congrArg List.length h2; simpa using this
    exact ⟨h1, h2, (all_zip covB _ _ h1).mp h3, (all_zip (fun a b : Int × Hd => covB a.2 b.2) _ _ lr).mp h4, h5⟩
  · intro h
    have lr : p.rows.length = q.rows.length := by have := congrArg List.length h.hd; simpa using this
    exact ⟨⟨h.l, h.hd⟩, (all_zip covB _ _ h.l).mpr h.ins, (all_zip (fun a b : Int × Hd => covB a.2 b.2) _ _ lr).mpr h.rows, h.out⟩
theorem Backs.lr {p q : Pr} (h : Backs p q) : p.rows.length = q.rows.length := by have := congrArg List.length h.hd; simpa using this
theorem backs_self (p : Pr) : backsB p p = true := (backs_iff p p).mpr ⟨rfl, rfl, fun _ _ _ => cov_refl _, fun _ _ _ => cov_refl _, cov_refl _⟩
theorem backs_trans {p q r : Pr} (h : backsB p q = true) (k : backsB q r = true) : backsB p r = true := by
  rw [backs_iff] at *
  have l1 := h.l
  have l2 := h.lr
  exact ⟨h.l.trans k.l, h.hd.trans k.hd, fun i h1 h2 => cov_trans (h.ins i h1 (by omega)) (k.ins i (by omega) h2), fun i h1 h2 => cov_trans (h.rows i h1 (by omega)) (k.rows i (by omega) h2), cov_trans k.out h.out⟩
theorem backs_anti {p q : Pr} (h : backsB p q = true) (k : backsB q p = true) : p.ins = q.ins ∧ p.rows = q.rows ∧ p.out = q.out := by
  rw [backs_iff] at *
  refine ⟨List.ext_getElem h.l fun i h1 h2 => cov_anti (h.ins i h1 h2) (k.ins i h2 h1), List.ext_getElem h.lr fun i h1 h2 => ?_, cov_anti k.out h.out⟩
  have e2 := cov_anti (h.rows i h1 h2) (k.rows i h2 h1)
  have e1 : (p.rows.map (·.1))[i]'(by simpa using h1) = (q.rows.map (·.1))[i]'(by simpa using h2) := by simp only [h.hd]
  simp only [List.getElem_map] at e1
  exact Prod.ext e1 e2
theorem e_backed {p q : Pr} (h : PrOk p) (k : PrOk q) (S : Sto) : ∃ s, F_backing_shown [ePr p, ePr q] S = .ok (eSh s) S ∧ F_law_shown_L [ePr p, ePr q] S = .ok (eSh s) S := by
  obtain ⟨s, e, _⟩ := shown_is p q
  exact ⟨s, by rw [← e]; exact e_shown h k S, by rw [← e]; exact l_shown h k S⟩
theorem eSh_backs (s : Sh) (S : Sto) : fEq false (eSh s) (.tup [.str "backs"]) S = .ok (.bl (match s with | .backs => true | _ => false)) S := by
  cases s with
  | un => kernel_rfl
  | backs => kernel_rfl
  | out => kernel_rfl
  | ins i => simp [eSh, fEq, toDS, toD, toDL, SeqAt.shaped, PyData.canLay0, PyData.canLayAll0, PyData.depth, PyData.depthAll, PyData.eqv, PyData.eqvAll]; exact ⟨by decide +kernel, by decide +kernel⟩
  | rows i => simp [eSh, fEq, toDS, toD, toDL, SeqAt.shaped, PyData.canLay0, PyData.canLayAll0, PyData.depth, PyData.depthAll, PyData.eqv, PyData.eqvAll]; exact ⟨by decide +kernel, by decide +kernel⟩
end G72
end
section
set_option Elab.async false
set_option linter.all false
set_option maxRecDepth 100000
set_option maxHeartbeats 4000000
set_option exponentiation.threshold 5000
namespace G72
open PySem PySem.Spec PyProof.Rows L2 Mi Ra
/-! ### what repr tells -/
def RP (v : PV) : Prop := ∃ t, PyData.strOk t = true ∧ ∀ S, fRepr [v] S = .ok (.str t) S
theorem eq_str {a b : Str} (h : PyData.strOk a = true) (k : PyData.strOk b = true) : ∃ c, ∀ S, fEq false (.str a) (.str b) S = .ok (.bl c) S := by
  have sh : ∀ {t : Str}, PyData.strOk t = true → SeqAt.shaped (.str t) = true := fun {t} h => by
    unfold SeqAt.shaped
    rw [PyData.canLay0, h]
    rfl
  refine ⟨PyData.eqv (.str a) (.str b), fun S => ?_⟩
  show (if SeqAt.shaped (.str a) = true ∧ SeqAt.shaped (.str b) = true then Res.ok (PV.bl (if false = true then !PyData.eqv (.str a) (.str b) else PyData.eqv (.str a) (.str b))) S else .bad) = _
  rw [if_pos ⟨sh h, sh k⟩]
  rfl
theorem vs_str {s : Str} (h : PyData.showable (.str s) = true) (k : PyData.strOk (PyData.shown (.str s)) = true) (l : (PyData.shown (.str s)).length ≤ 100) (o : PyData.strOk s = true) : Vs 100 (.str s) :=
  ⟨.str s, rfl, ⟨h, k, l⟩, by simp [PyData.depth], by rw [PyData.canLay0, o]⟩
theorem vs_int {i : Int} (h : i.natAbs < 10 ^ 300) : Vs 301 (.int i) := ⟨.int i, rfl, shw_int h, by simp [PyData.depth], rfl⟩
theorem rp_tup {xs : List PV} (h : ∀ x ∈ xs, Vs 5000 x) (l : xs.length ≤ 100) : RP (.tup xs) := by
  obtain ⟨ds, e, s, ln, dp, cl⟩ := vs_list h
  have sh := shw_tup (n := 5000) (m := 100) s (by omega)
  have dd : (PyData.tuple ds).depth ≤ 64 := by simp only [PyData.depth]; omega
  have lm : (PyData.tuple ds).shown.length ≤ lim := Nat.le_trans sh.l (by decide)
  refine ⟨(PyData.tuple ds).shown, sh.o, fun S => ?_⟩
  show (match (toDL xs).map PyData.tuple with | some d => if d.showable = true ∧ d.depth ≤ 64 ∧ d.shown.length ≤ lim then Res.ok (PV.str d.shown) S else .bad | none => .bad) = _
  rw [e]
  simp only [Option.map_some, sh.s, dd, lm, and_self, if_true]
theorem vw (s : Str) (h : s = "backs" ∨ s = "unlike" ∨ s = "ins" ∨ s = "rows" ∨ s = "out") : Vs 5000 (.str s) := by
  rcases h with rfl | rfl | rfl | rfl | rfl <;> exact (vs_str (by decide +kernel) (by decide +kernel) (by decide +kernel) (by decide +kernel)).mono (by decide)
theorem vi {i : Int} (h : i.natAbs < 10 ^ 300) : Vs 5000 (.int i) := (vs_int h).mono (by decide)
theorem vbl (b : Bool) : Vs 5000 (.bl b) := (vs_bl b).mono (by decide)
theorem vn_1 {P : PV → Prop} {a : PV} (h : P a) : ∀ x ∈ [a], P x := fun x hx => by
  have : x = a := by simpa using hx
  rw [this]; exact h
theorem vn_2 {P : PV → Prop} {a b : PV} (h : P a) (k : P b) : ∀ x ∈ [a, b], P x := fun x hx => by
  simp only [List.mem_cons, List.not_mem_nil, or_false] at hx
  rcases hx with rfl | rfl <;> assumption
theorem vn_3 {P : PV → Prop} {a b c : PV} (h : P a) (k : P b) (l : P c) : ∀ x ∈ [a, b, c], P x := fun x hx => by
  simp only [List.mem_cons, List.not_mem_nil, or_false] at hx
  rcases hx with rfl | rfl | rfl <;> assumption
/-- few places -/
def Sh.few : Sh → Prop
  | .ins i => i < 100
  | .rows i => i < 100
  | _ => True
theorem small {i : Nat} (h : i < 100) : ((i : Nat) : Int).natAbs < 10 ^ 300 := by
  rw [Int.natAbs_natCast]
  exact Nat.lt_of_lt_of_le h (by decide +kernel)
theorem rp_sh {s : Sh} (h : s.few) : RP (eSh s) := by
  cases s with
  | un => exact rp_tup (vn_1 (vw _ (by simp))) (by decide)
  | backs => exact rp_tup (vn_1 (vw _ (by simp))) (by decide)
  | out => exact rp_tup (vn_1 (vw _ (by simp))) (by decide)
  | ins i => exact rp_tup (vn_2 (vw _ (by simp)) (vi (small h))) (by show 2 ≤ 100; decide)
  | rows i => exact rp_tup (vn_2 (vw _ (by simp)) (vi (small h))) (by show 2 ≤ 100; decide)
theorem firstBad_lt : ∀ (l : List (Hd × Hd)) (k i : Nat), firstBad l k = some i → i < k + l.length
  | [], k, i, h => by cases h
  | (a, b) :: l, k, i, h => by
    rw [firstBad] at h
    rw [List.length_cons]
    cases c : covB a b with
    | true => rw [c, if_pos rfl] at h; have := firstBad_lt l (k + 1) i h; omega
    | false => rw [c, if_neg Bool.false_ne_true] at h; cases h; omega
theorem shown_few {p q : Pr} (h : PrOk p) : ∃ s : Sh, shown p q = eSh s ∧ s.few ∧ (backsB p q = true ↔ s = .backs) := by
  obtain ⟨s, e, b⟩ := shown_is p q
  refine ⟨s, e, ?_, b⟩
  have e2 := e
  unfold shown at e
  cases s with
  | ins i =>
    cases ca : alike p q with
    | false => rw [ca] at e; simp [eSh] at e
    | true =>
      rw [ca, if_pos rfl] at e
      cases f1 : firstBad (pairs p q) 0 with
      | some j =>
        rw [f1] at e
        have : (j : Int) = (i : Int) := by simpa [eSh] using e
        have l := firstBad_lt _ _ _ f1
        have l2 : (pairs p q).length ≤ p.ins.length := by unfold pairs; rw [List.length_zip]; omega
        have := h.lin
        show i < 100
        omega
      | none =>
        rw [f1] at e
        cases f2 : firstBad ((rpairs p q).map fun r => (r.1.2, r.2.2)) 0 with
        | some j => rw [f2] at e; simp [eSh] at e; exact absurd e.1 (by decide +kernel)
        | none =>
          rw [f2] at e
          cases co : covB q.out p.out <;> rw [co] at e <;> simp [eSh] at e
  | rows i =>
    cases ca : alike p q with
    | false => rw [ca] at e; simp [eSh] at e
    | true =>
      rw [ca, if_pos rfl] at e
      cases f1 : firstBad (pairs p q) 0 with
      | some j => rw [f1] at e; simp [eSh] at e; exact absurd e.1 (by decide +kernel)
      | none =>
        rw [f1] at e
        cases f2 : firstBad ((rpairs p q).map fun r => (r.1.2, r.2.2)) 0 with
        | some j =>
          rw [f2] at e
          have : (j : Int) = (i : Int) := by simpa [eSh] using e
          have l := firstBad_lt _ _ _ f2
          have l2 : ((rpairs p q).map fun r => (r.1.2, r.2.2)).length ≤ p.rows.length := by unfold rpairs; rw [List.length_map, List.length_zip]; omega
          have := h.lrow
          show i < 100
          omega
        | none =>
          rw [f2] at e
          cases co : covB q.out p.out <;> rw [co] at e <;> simp [eSh] at e
  | _ => trivial
theorem rp_b (b : Bool) : ∃ t, (∀ S, fRepr [.bl b] S = .ok (.str t) S) ∧ ∀ S, fEq true (.str t) (.str t) S = .ok (.bl false) S := by
  cases b with
  | true => exact ⟨"True", fun S => by kernel_rfl, fun S => by kernel_rfl⟩
  | false => exact ⟨"False", fun S => by kernel_rfl, fun S => by kernel_rfl⟩
/-- a thing to ask about -/
def Th (v : PV) : Prop := ((∀ S, fIsi [v, .ty "tuple"] S = .ok (.bl true) S) ∧ RP v) ∨ ∀ S, fIsi [v, .ty "tuple"] S = .ok (.bl false) S
def prB : EnP → Sto → SR := (dSeq (dSet 7 (dAnd (dCB fIsi (dCons (dV 6) (dCons (dC (.ty "tuple")) (dNil)))) (dBin (fEq false) (dCB fRepr (dCons (dV 6) (dNil))) (dCB fRepr (dCons (dV 3) (dNil)))))) (dIfS (dB (dBin (fEq true) (dCB fRepr (dCons (dCB F_is_backing_shown (dCons (dV 1) (dCons (dV 2) (dCons (dV 6) (dNil))))) (dNil))) (dCB fRepr (dCons (dV 7) (dNil))))) (dRet (dC (.bl false))) (dPass)))
theorem pr_step {p q : Pr} (h : PrOk p) (k : PrOk q) {s : Sh} (hs : shown p q = eSh s) (few : s.few) {v : PV} (hv : Th v) {a0 a4 a5 a6 a7 a8 a9 : Option PV} {S : Sto} :
    ∃ b7, prB [a0, some (ePr p), some (ePr q), some (eSh s), a4, a5, some v, a7, a8, a9] S = .nx [a0, some (ePr p), some (ePr q), some (eSh s), a4, a5, some v, b7, a8, a9] S := by
  have bo := e_both h k
  have rs : ∀ S, F_raw_shown [ePr p, ePr q] S = .ok (eSh s) S := fun S => by rw [← hs]; exact e_raw_shown h k S
  obtain ⟨u, uo, ur⟩ := rp_sh few
  rcases hv with ⟨i, t, to, tr⟩ | i
  · obtain ⟨c, ec⟩ := eq_str to uo
    obtain ⟨x, xr, xe⟩ := rp_b c
    have ib : ∀ S, F_is_backing_shown [ePr p, ePr q, v] S = .ok (.bl c) S := fun S => by
      simp [F_is_backing_shown, d_is_backing_shown, runF, startP, endOf, dRet, dRetN, dIf, dIfS, dB, dBin, dUn, dV, dC, sE, asB, dSeq, dSet, dPar, dPar3, dAsg, dExpr, dAnd, dOr, dNot, bAnd, bOr, bNot, dTru, dCB, dCons, dNil, dTup, dLst, dChain, dPass, fCmpI, fIsN, gTp, gsCons, gsNil, gNm, mkTup, dSl, dPart, dNoPart, lim, iLt, iLe, iGt, iGe, bo, i, tr, rs, ur, ec, truP]
    refine ⟨some (.bl c), ?_⟩
    simp [prB, runF, startP, endOf, dRet, dRetN, dIf, dIfS, dB, dBin, dUn, dV, dC, sE, asB, dSeq, dSet, dPar, dPar3, dAsg, dExpr, dAnd, dOr, dNot, bAnd, bOr, bNot, dTru, dCB, dCons, dNil, dTup, dLst, dChain, dPass, fCmpI, fIsN, gTp, gsCons, gsNil, gNm, mkTup, dSl, dPart, dNoPart, lim, iLt, iLe, iGt, iGe, i, tr, ur, ec, truP, ib, xr, xe]
  · obtain ⟨x, xr, xe⟩ := rp_b false
    have ib : ∀ S, F_is_backing_shown [ePr p, ePr q, v] S = .ok (.bl false) S := fun S => by
      simp [F_is_backing_shown, d_is_backing_shown, runF, startP, endOf, dRet, dRetN, dIf, dIfS, dB, dBin, dUn, dV, dC, sE, asB, dSeq, dSet, dPar, dPar3, dAsg, dExpr, dAnd, dOr, dNot, bAnd, bOr, bNot, dTru, dCB, dCons, dNil, dTup, dLst, dChain, dPass, fCmpI, fIsN, gTp, gsCons, gsNil, gNm, mkTup, dSl, dPart, dNoPart, lim, iLt, iLe, iGt, iGe, bo, i, truP]
    refine ⟨some (.bl false), ?_⟩
    simp [prB, runF, startP, endOf, dRet, dRetN, dIf, dIfS, dB, dBin, dUn, dV, dC, sE, asB, dSeq, dSet, dPar, dPar3, dAsg, dExpr, dAnd, dOr, dNot, bAnd, bOr, bNot, dTru, dCB, dCons, dNil, dTup, dLst, dChain, dPass, fCmpI, fIsN, gTp, gsCons, gsNil, gNm, mkTup, dSl, dPart, dNoPart, lim, iLt, iLe, iGt, iGe, i, truP, ib, xr, xe]
theorem pr_loop {p q : Pr} (h : PrOk p) (k : PrOk q) {s : Sh} (hs : shown p q = eSh s) (few : s.few) {a0 a4 a5 a8 a9 : Option PV} {S : Sto} : ∀ (vs : List PV) (a6 a7 : Option PV), (∀ v ∈ vs, Th v) →
    ∃ b6 b7, forP (gNm 6) prB vs [a0, some (ePr p), some (ePr q), some (eSh s), a4, a5, a6, a7, a8, a9] S = .nx [a0, some (ePr p), some (ePr q), some (eSh s), a4, a5, b6, b7, a8, a9] S
  | [], a6, a7, _ => ⟨a6, a7, rfl⟩
  | v :: vs, a6, a7, hv => by
    obtain ⟨c7, e⟩ := pr_step h k hs few (hv v List.mem_cons_self) (a0 := a0) (a4 := a4) (a5 := a5) (a6 := a6) (a7 := a7) (a8 := a8) (a9 := a9) (S := S)
    obtain ⟨b6, b7, ih⟩ := pr_loop h k hs few (a0 := a0) (a4 := a4) (a5 := a5) (a8 := a8) (a9 := a9) (S := S) vs (some v) c7 fun z hz => hv z (List.mem_cons_of_mem _ hz)
    refine ⟨b6, b7, ?_⟩
    have g : gNm 6 v [a0, some (ePr p), some (ePr q), some (eSh s), a4, a5, a6, a7, a8, a9] S = .ok [a0, some (ePr p), some (ePr q), some (eSh s), a4, a5, some v, a7, a8, a9] S := rfl
    rw [forP, g]
    simp only [sE, e]
    exact ih
def pqB : EnP → Sto → SR := (dIfS (bOr (dB (dBin (fEq true) (dCB fRepr (dCons (dCB F_covers (dCons (dV 8) (dCons (dV 9) (dNil)))) (dNil))) (dCB fRepr (dCons (dCB F_law_covers_L (dCons (dV 8) (dCons (dV 9) (dNil)))) (dNil))))) (dB (dBin (fIs true) (dCB F_is_hold (dCons (dV 8) (dNil))) (dC (.bl true))))) (dRet (dC (.bl false))) (dPass))
def pqG : DG := (gTp 2 (gsCons (gNm 8) (gsCons (gNm 9) (gsNil))))
theorem pq_loop {a0 a1 a2 a3 a4 a5 a6 a7 : Option PV} {S : Sto} : ∀ (l : List (Hd × Hd)) (a8 a9 : Option PV), (∀ z ∈ l, HG z.1 ∧ HG z.2) →
    ∃ b8 b9, forP pqG pqB (l.map fun z => PV.tup [eH z.1, eH z.2]) [a0, a1, a2, a3, a4, a5, a6, a7, a8, a9] S = .nx [a0, a1, a2, a3, a4, a5, a6, a7, b8, b9] S
  | [], a8, a9, _ => ⟨a8, a9, rfl⟩
  | (x, y) :: l, a8, a9, hl => by
    obtain ⟨hx, hy⟩ := hl (x, y) List.mem_cons_self
    obtain ⟨b8, b9, ih⟩ := pq_loop (a0 := a0) (a1 := a1) (a2 := a2) (a3 := a3) (a4 := a4) (a5 := a5) (a6 := a6) (a7 := a7) (S := S) l (some (eH x)) (some (eH y)) fun z hz => hl z (List.mem_cons_of_mem _ hz)
    refine ⟨b8, b9, ?_⟩
    have g : pqG (.tup [eH x, eH y]) [a0, a1, a2, a3, a4, a5, a6, a7, a8, a9] S = .ok [a0, a1, a2, a3, a4, a5, a6, a7, some (eH x), some (eH y)] S := rfl
    have c1 := fun S => e_coversB (S := S) hx hy
    have c2 := fun S => l_lcov (S := S) hx.ok hy.ok
    have c3 := fun S => e_is_hold (S := S) hx.ok hx.is
    obtain ⟨t, tr, te⟩ := rp_b (covB x y)
    have it : ∀ S, fIs true (.bl true) (.bl true) S = .ok (.bl false) S := fun S => rfl
    have e : pqB [a0, a1, a2, a3, a4, a5, a6, a7, some (eH x), some (eH y)] S = .nx [a0, a1, a2, a3, a4, a5, a6, a7, some (eH x), some (eH y)] S := by
      simp [pqB, runF, startP, endOf, dRet, dRetN, dIf, dIfS, dB, dBin, dUn, dV, dC, sE, asB, dSeq, dSet, dPar, dPar3, dAsg, dExpr, dAnd, dOr, dNot, bAnd, bOr, bNot, dTru, dCB, dCons, dNil, dTup, dLst, dChain, dPass, fCmpI, fIsN, gTp, gsCons, gsNil, gNm, mkTup, dSl, dPart, dNoPart, lim, iLt, iLe, iGt, iGe, c1, c2, c3, tr, te, it]
    rw [List.map_cons, forP, g]
    simp only [sE, e]
    exact ih
end G72
end
section
set_option Elab.async false
set_option linter.all false
set_option maxRecDepth 100000
set_option maxHeartbeats 4000000
set_option exponentiation.threshold 5000
namespace G72
open PySem PySem.Spec PyProof.Rows L2 Mi Ra
def Sh.items : Sh → List PV
  | .un => [.str "unlike"]
  | .ins i => [.str "ins", .int (i : Nat)]
  | .rows i => [.str "rows", .int (i : Nat)]
  | .backs => [.str "backs"]
  | .out => [.str "out"]
theorem sh_items (s : Sh) : eSh s = .tup s.items := by cases s <;> rfl
theorem items_vs {s : Sh} (h : s.few) : (∀ x ∈ s.items, Vs 5000 x) ∧ s.items.length ≤ 2 := by
  cases s with
  | un => exact ⟨vn_1 (vw _ (by simp)), by decide⟩
  | backs => exact ⟨vn_1 (vw _ (by simp)), by decide⟩
  | out => exact ⟨vn_1 (vw _ (by simp)), by decide⟩
  | ins i => exact ⟨vn_2 (vw _ (by simp)) (vi (small h)), by show 2 ≤ 2; decide⟩
  | rows i => exact ⟨vn_2 (vw _ (by simp)) (vi (small h)), by show 2 ≤ 2; decide⟩
def ths1 (s : Sh) : List PV := [eSh s, .tup [.str "backs"], .tup [.str "unlike"], .tup [.str "ins", .int 0], .tup [.str "ins", .int 1], .tup [.str "rows", .int 0], .tup [.str "out"], .tup [.str "backs", .int 0], .tup [.str "ins", .bl true]]
def ths2 (s : Sh) : List PV := [.non, .str "backs", .tup [], .nl s.items, .tup [.str "ins"], .tup (s.items ++ [.int 0]), .nd [] [], .str "?"]
theorem th_t {xs : List PV} (h : ∀ x ∈ xs, Vs 5000 x) (l : xs.length ≤ 100) : Th (.tup xs) := .inl ⟨fun S => rfl, rp_tup h l⟩
theorem ths_all {s : Sh} (h : s.few) : ∀ v ∈ ths1 s ++ ths2 s, Th v := by
  obtain ⟨iv, il⟩ := items_vs h
  have z : ∀ i : Int, i.natAbs < 100 → Vs 5000 (.int i) := fun i hi => vi (Nat.lt_of_lt_of_le hi (by decide +kernel))
  intro v hv
  rcases List.mem_append.mp hv with hv | hv
  · simp only [ths1, List.mem_cons, List.not_mem_nil, or_false] at hv
    rcases hv with rfl | rfl | rfl | rfl | rfl | rfl | rfl | rfl | rfl
    · rw [sh_items]; exact th_t iv (by omega)
    · exact th_t (vn_1 (vw _ (by simp))) (by decide)
    · exact th_t (vn_1 (vw _ (by simp))) (by decide)
    · exact th_t (vn_2 (vw _ (by simp)) (z 0 (by decide))) (by decide)
    · exact th_t (vn_2 (vw _ (by simp)) (z 1 (by decide))) (by decide)
    · exact th_t (vn_2 (vw _ (by simp)) (z 0 (by decide))) (by decide)
    · exact th_t (vn_1 (vw _ (by simp))) (by decide)
    · exact th_t (vn_2 (vw _ (by simp)) (z 0 (by decide))) (by decide)
    · exact th_t (vn_2 (vw _ (by simp)) (vbl true)) (by decide)
  · simp only [ths2, List.mem_cons, List.not_mem_nil, or_false] at hv
    rcases hv with rfl | rfl | rfl | rfl | rfl | rfl | rfl | rfl
    · exact .inr fun S => rfl
    · exact .inr fun S => rfl
    · exact th_t (fun x hx => by cases hx) (by decide)
    · exact .inr fun S => rfl
    · exact th_t (vn_1 (vw _ (by simp))) (by decide)
    · refine th_t (fun x hx => ?_) (by simp; omega)
      rcases List.mem_append.mp hx with hx | hx
      · exact iv x hx
      · have : x = .int 0 := by simpa using hx
        rw [this]
        exact z 0 (by decide)
    · exact .inr fun S => rfl
    · exact .inr fun S => rfl
def isB : Sh → Bool
  | .backs => true
  | _ => false
theorem eSh_b (s : Sh) (S : Sto) : fEq false (eSh s) (.tup [.str "backs"]) S = .ok (.bl (isB s)) S := by
  rw [eSh_backs]; cases s <;> rfl
theorem add_nl (xs ys : List PV) (S : Sto) (h : xs.length + ys.length ≤ 1000) : fAdd false (.nl xs) (.nl ys) S = .ok (.nl (xs ++ ys)) S := by
  show mkLst false (xs ++ ys) S = _
  unfold mkLst
  rw [if_pos (by rw [List.length_append]; unfold lim; omega)]
  rfl
theorem l_pair {p q : Pr} (h : PrOk p) (k : PrOk q) {h0 : PV} (S : Sto) : F_law_pair_right_L [h0, ePr p, ePr q] S = .ok (.bl true) S := by
  obtain ⟨s, hs, few, bi⟩ := shown_few (q := q) h
  have lsh : ∀ S, F_law_shown_L [ePr p, ePr q] S = .ok (eSh s) S := fun S => by rw [← hs]; exact l_shown h k S
  have bsh : ∀ S, F_backing_shown [ePr p, ePr q] S = .ok (eSh s) S := fun S => by rw [← hs]; exact e_shown h k S
  have bk : ∀ S, F_backs [ePr p, ePr q] S = .ok (.bl (isB s)) S := fun S => by
    have : backsB p q = isB s := by
      cases c : backsB p q with
      | true => rw [bi.mp c]; rfl
      | false =>
        cases s with
        | backs => rw [bi.mpr rfl] at c; cases c
        | _ => rfl
    rw [← this]
    exact e_backs h k S
  obtain ⟨u, uo, ur⟩ := rp_sh few
  have ue : ∀ S, fEq true (.str u) (.str u) S = .ok (.bl false) S := fun S => ne_str uo
  obtain ⟨x, xr, xe⟩ := rp_b (isB s)
  have eb := eSh_b s
  obtain ⟨b6, b7, lp⟩ := pr_loop h k hs few (a0 := some h0) (a4 := some (.nl (ths1 s ++ ths2 s))) (a5 := none) (a8 := none) (a9 := none) (S := S) (ths1 s ++ ths2 s) none none (ths_all few)
  have mem : ∀ (p : Pr), PrOk p → ∀ x ∈ p.ins ++ [p.out], HG x := fun p h x hx => by
    rcases List.mem_append.mp hx with hx | hx
    · exact h.ins x hx
    · have : x = p.out := by simpa using hx
      rw [this]; exact h.out
  obtain ⟨b8, b9, lq⟩ := pq_loop (a0 := some h0) (a1 := some (ePr p)) (a2 := some (ePr q)) (a3 := some (eSh s)) (a4 := some (.nl (ths1 s ++ ths2 s))) (a5 := none) (a6 := b6) (a7 := b7) (S := S) ((p.ins ++ [p.out]).zip (q.ins ++ [q.out])) none none (fun z hz => by
    have hm := List.of_mem_zip (show (z.1, z.2) ∈ (p.ins ++ [p.out]).zip (q.ins ++ [q.out]) from hz)
    exact ⟨mem p h _ hm.1, mem q k _ hm.2⟩)
  have ai : ∀ (p : Pr) (h : PrOk p) S, fAdd false (eI p) (.tup [eH p.out]) S = .ok (.tup ((p.ins ++ [p.out]).map eH)) S := fun p h S => by
    have l := h.lin
    have := add_tup (xs := p.ins.map eH) (ys := [eH p.out]) (S := S) (by simp; omega)
    rw [List.map_append]
    exact this
  have iz : ∀ a3 a4 a5 a6 a7 a8 a9, iZip2 (dCons (dBin (fAdd false) (dBin fIx (dV 1) (dC (.int 1))) (dTup (dCons (dBin fIx (dV 1) (dC (.int 3))) (dNil)))) (dCons (dBin (fAdd false) (dBin fIx (dV 2) (dC (.int 1))) (dTup (dCons (dBin fIx (dV 2) (dC (.int 3))) (dNil)))) (dNil))) [some h0, some (ePr p), some (ePr q), a3, a4, a5, a6, a7, a8, a9] S = .ok (((p.ins ++ [p.out]).zip (q.ins ++ [q.out])).map fun z => PV.tup [eH z.1, eH z.2]) S := fun a3 a4 a5 a6 a7 a8 a9 => by
    have a1 := ai p h
    have a2 := ai q k
    rw [← zip_map]
    unfold iZip2
    have e : (dCons (dBin (fAdd false) (dBin fIx (dV 1) (dC (.int 1))) (dTup (dCons (dBin fIx (dV 1) (dC (.int 3))) (dNil)))) (dCons (dBin (fAdd false) (dBin fIx (dV 2) (dC (.int 1))) (dTup (dCons (dBin fIx (dV 2) (dC (.int 3))) (dNil)))) (dNil))) [some h0, some (ePr p), some (ePr q), a3, a4, a5, a6, a7, a8, a9] S = .ok [.tup ((p.ins ++ [p.out]).map eH), .tup ((q.ins ++ [q.out]).map eH)] S := by
      simp [runF, startP, endOf, dRet, dRetN, dIf, dIfS, dB, dBin, dUn, dV, dC, sE, asB, dSeq, dSet, dPar, dPar3, dAsg, dExpr, dAnd, dOr, dNot, bAnd, bOr, bNot, dTru, dCB, dCons, dNil, dTup, dLst, dChain, dPass, fCmpI, fIsN, gTp, gsCons, gsNil, gNm, mkTup, dSl, dPart, dNoPart, lim, iLt, iLe, iGt, iGe, p1, p3, a1, a2, -List.map_append]
    rw [e, Res.bind_ok]
    rfl
  have ip := e_promise h
  have iq := e_promise k
  have it : ∀ S, fIs false (.bl true) (.bl true) S = .ok (.bl true) S := fun S => rfl
  have s0 : (dSet 3 (dCB F_law_shown_L (dCons (dV 1) (dCons (dV 2) (dNil))))) [some h0, some (ePr p), some (ePr q), none, none, none, none, none, none, none] S = .nx [some h0, some (ePr p), some (ePr q), some (eSh s), none, none, none, none, none, none] S := by simp [runF, startP, endOf, dRet, dRetN, dIf, dIfS, dB, dBin, dUn, dV, dC, sE, asB, dSeq, dSet, dPar, dPar3, dAsg, dExpr, dAnd, dOr, dNot, bAnd, bOr, bNot, dTru, dCB, dCons, dNil, dTup, dLst, dChain, dPass, fCmpI, fIsN, gTp, gsCons, gsNil, gNm, mkTup, dSl, dPart, dNoPart, lim, iLt, iLe, iGt, iGe, lsh]
  have s1 : (dIfS (bOr (dB (dBin (fEq true) (dCB fRepr (dCons (dCB F_backing_shown (dCons (dV 1) (dCons (dV 2) (dNil)))) (dNil))) (dCB fRepr (dCons (dV 3) (dNil))))) (dB (dBin (fEq true) (dCB fRepr (dCons (dCB F_backs (dCons (dV 1) (dCons (dV 2) (dNil)))) (dNil))) (dCB fRepr (dCons (dBin (fEq false) (dV 3) (dTup (dCons (dC (.str ("backs" : Str))) (dNil)))) (dNil)))))) (dRet (dC (.bl false))) (dPass)) [some h0, some (ePr p), some (ePr q), some (eSh s), none, none, none, none, none, none] S = .nx [some h0, some (ePr p), some (ePr q), some (eSh s), none, none, none, none, none, none] S := by simp [runF, startP, endOf, dRet, dRetN, dIf, dIfS, dB, dBin, dUn, dV, dC, sE, asB, dSeq, dSet, dPar, dPar3, dAsg, dExpr, dAnd, dOr, dNot, bAnd, bOr, bNot, dTru, dCB, dCons, dNil, dTup, dLst, dChain, dPass, fCmpI, fIsN, gTp, gsCons, gsNil, gNm, mkTup, dSl, dPart, dNoPart, lim, iLt, iLe, iGt, iGe, bsh, bk, ur, ue, eb, xr, xe]
  have s2 : (dSet 4 (dLst false (dCons (dV 3) (dCons (dTup (dCons (dC (.str ("backs" : Str))) (dNil))) (dCons (dTup (dCons (dC (.str ("unlike" : Str))) (dNil))) (dCons (dTup (dCons (dC (.str ("ins" : Str))) (dCons (dC (.int 0)) (dNil)))) (dCons (dTup (dCons (dC (.str ("ins" : Str))) (dCons (dC (.int 1)) (dNil)))) (dCons (dTup (dCons (dC (.str ("rows" : Str))) (dCons (dC (.int 0)) (dNil)))) (dCons (dTup (dCons (dC (.str ("out" : Str))) (dNil))) (dCons (dTup (dCons (dC (.str ("backs" : Str))) (dCons (dC (.int 0)) (dNil)))) (dCons (dTup (dCons (dC (.str ("ins" : Str))) (dCons (dC (.bl true)) (dNil)))) (dNil)))))))))))) [some h0, some (ePr p), some (ePr q), some (eSh s), none, none, none, none, none, none] S = .nx [some h0, some (ePr p), some (ePr q), some (eSh s), some (.nl (ths1 s)), none, none, none, none, none] S := rfl
  have cp : ∀ S, dLc false (iSeq (dV 3)) (cNm 5) (dYes) (dV 5) [5] [some h0, some (ePr p), some (ePr q), some (eSh s), some (.nl (ths1 s)), none, none, none, none, none] S = .ok (.nl s.items) S := fun S => by cases s <;> rfl
  have pl : ∀ S, fAdd false (eSh s) (.tup [.int 0]) S = .ok (.tup (s.items ++ [.int 0])) S := fun S => by cases s <;> rfl
  have d0 : ∀ ρ S, dDict0 ρ S = .ok (.nd [] []) S := fun ρ S => rfl
  have an : ∀ S, fAdd false (.nl (ths1 s)) (.nl [.non, .str "backs", .tup [], .nl s.items, .tup [.str "ins"], .tup (s.items ++ [.int 0]), .nd [] [], .str "?"]) S = .ok (.nl (ths1 s ++ ths2 s)) S := fun S => add_nl _ _ S (by show 9 + 8 ≤ 1000; decide)
  have s3 : (dSet 4 (dBin (fAdd false) (dV 4) (dLst false (dCons (dC .non) (dCons (dC (.str ("backs" : Str))) (dCons (dTup (dNil)) (dCons (dLc false (iSeq (dV 3)) (cNm 5) (dYes) (dV 5) [5]) (dCons (dTup (dCons (dC (.str ("ins" : Str))) (dNil))) (dCons (dBin (fAdd false) (dV 3) (dTup (dCons (dC (.int 0)) (dNil)))) (dCons (dDict0) (dCons (dC (.str ("?" : Str))) (dNil)))))))))))) [some h0, some (ePr p), some (ePr q), some (eSh s), some (.nl (ths1 s)), none, none, none, none, none] S = .nx [some h0, some (ePr p), some (ePr q), some (eSh s), some (.nl (ths1 s ++ ths2 s)), none, none, none, none, none] S := by
    generalize ths1 s ++ ths2 s = LL at *
    generalize ths1 s = L1 at *
    generalize s.items ++ [.int 0] = I0 at *
    simp [runF, startP, endOf, dRet, dRetN, dIf, dIfS, dB, dBin, dUn, dV, dC, sE, asB, dSeq, dSet, dPar, dPar3, dAsg, dExpr, dAnd, dOr, dNot, bAnd, bOr, bNot, dTru, dCB, dCons, dNil, dTup, dLst, dChain, dPass, fCmpI, fIsN, gTp, gsCons, gsNil, gNm, mkTup, dSl, dPart, dNoPart, lim, iLt, iLe, iGt, iGe, mkLst, cp, pl, d0, an]
  have sF : ∀ ρ, iSeq (dV 4) [some h0, some (ePr p), some (ePr q), some (eSh s), some (.nl (ths1 s ++ ths2 s)), none, none, none, none, none] ρ = .ok (ths1 s ++ ths2 s) ρ := fun ρ => rfl
  have dd : d_law_pair_right_L = dSeq (dSet 3 (dCB F_law_shown_L (dCons (dV 1) (dCons (dV 2) (dNil))))) (dSeq (dIfS (bOr (dB (dBin (fEq true) (dCB fRepr (dCons (dCB F_backing_shown (dCons (dV 1) (dCons (dV 2) (dNil)))) (dNil))) (dCB fRepr (dCons (dV 3) (dNil))))) (dB (dBin (fEq true) (dCB fRepr (dCons (dCB F_backs (dCons (dV 1) (dCons (dV 2) (dNil)))) (dNil))) (dCB fRepr (dCons (dBin (fEq false) (dV 3) (dTup (dCons (dC (.str ("backs" : Str))) (dNil)))) (dNil)))))) (dRet (dC (.bl false))) (dPass)) (dSeq (dSet 4 (dLst false (dCons (dV 3) (dCons (dTup (dCons (dC (.str ("backs" : Str))) (dNil))) (dCons (dTup (dCons (dC (.str ("unlike" : Str))) (dNil))) (dCons (dTup (dCons (dC (.str ("ins" : Str))) (dCons (dC (.int 0)) (dNil)))) (dCons (dTup (dCons (dC (.str ("ins" : Str))) (dCons (dC (.int 1)) (dNil)))) (dCons (dTup (dCons (dC (.str ("rows" : Str))) (dCons (dC (.int 0)) (dNil)))) (dCons (dTup (dCons (dC (.str ("out" : Str))) (dNil))) (dCons (dTup (dCons (dC (.str ("backs" : Str))) (dCons (dC (.int 0)) (dNil)))) (dCons (dTup (dCons (dC (.str ("ins" : Str))) (dCons (dC (.bl true)) (dNil)))) (dNil)))))))))))) (dSeq (dSet 4 (dBin (fAdd false) (dV 4) (dLst false (dCons (dC .non) (dCons (dC (.str ("backs" : Str))) (dCons (dTup (dNil)) (dCons (dLc false (iSeq (dV 3)) (cNm 5) (dYes) (dV 5) [5]) (dCons (dTup (dCons (dC (.str ("ins" : Str))) (dNil))) (dCons (dBin (fAdd false) (dV 3) (dTup (dCons (dC (.int 0)) (dNil)))) (dCons (dDict0) (dCons (dC (.str ("?" : Str))) (dNil)))))))))))) (dSeq (dFor (iSeq (dV 4)) (gNm 6) prB) (dSeq (dFor (iZip2 (dCons (dBin (fAdd false) (dBin fIx (dV 1) (dC (.int 1))) (dTup (dCons (dBin fIx (dV 1) (dC (.int 3))) (dNil)))) (dCons (dBin (fAdd false) (dBin fIx (dV 2) (dC (.int 1))) (dTup (dCons (dBin fIx (dV 2) (dC (.int 3))) (dNil)))) (dNil)))) pqG pqB) (dRet (dAnd (dBin (fIs false) (dCB F_is_promise (dCons (dV 1) (dNil))) (dC (.bl true))) (dBin (fIs false) (dCB F_is_promise (dCons (dV 2) (dNil))) (dC (.bl true)))))))))) := rfl
  have e0 : F_law_pair_right_L [h0, ePr p, ePr q] S = endOf (d_law_pair_right_L [some h0, some (ePr p), some (ePr q), none, none, none, none, none, none, none] S) := rfl
  rw [e0, dd]
  simp only [dSeq, s0, s1, s2, s3, dFor, sF, sE, lp, iz, lq]
  simp [runF, startP, endOf, dRet, dRetN, dIf, dIfS, dB, dBin, dUn, dV, dC, sE, asB, dSeq, dSet, dPar, dPar3, dAsg, dExpr, dAnd, dOr, dNot, bAnd, bOr, bNot, dTru, dCB, dCons, dNil, dTup, dLst, dChain, dPass, fCmpI, fIsN, gTp, gsCons, gsNil, gNm, mkTup, dSl, dPart, dNoPart, lim, iLt, iLe, iGt, iGe, ip, iq, it]
theorem l_leads {p q r : Pr} (h : PrOk p) (k : PrOk q) (l : PrOk r) (S : Sto) : F_law_leads_right_L [ePr p, ePr q, ePr r] S = .ok (.bl true) S := by
  have b1 := e_backs h k
  have b2 := e_backs k l
  have b3 := e_backs h l
  have b4 := e_backs k h
  have sf : ∀ S, F_backing_shown [ePr p, ePr p] S = .ok (.tup [.str "backs"]) S := fun S => by
    obtain ⟨s, hs, _, bi⟩ := shown_few (q := p) h
    rw [e_shown h h S, hs, bi.mp (backs_self p)]
    rfl
  have eb : ∀ S, fEq true (.tup [.str "backs"]) (.tup [.str "backs"]) S = .ok (.bl false) S := fun S => by kernel_rfl
  have t1 : ∀ (p : Pr) S, fSl false (ePr p) (some 1) none S = .ok (.tup [eI p, eR p, eH p.out]) S := fun p S => rfl
  have et : ∀ S, fEq false (.tup [eI p, eR p, eH p.out]) (.tup [eI q, eR q, eH q.out]) S = .ok (.bl (decide (p.ins = q.ins ∧ p.rows = q.rows ∧ p.out = q.out))) S := fun S => eq_tail S
  have i0 : ∀ (a b c : PV) S, fIx (.nl [a, b, c]) (.int 0) S = .ok a S := fun a b c S => rfl
  have i1 : ∀ (a b c : PV) S, fIx (.nl [a, b, c]) (.int 1) S = .ok b S := fun a b c S => rfl
  have i2 : ∀ (a b c : PV) S, fIx (.nl [a, b, c]) (.int 2) S = .ok c S := fun a b c S => rfl
  have tr := fun (x : backsB p q = true) (y : backsB q r = true) => backs_trans x y
  have an := fun (x : backsB p q = true) (y : backsB q p = true) => backs_anti x y
  cases c1 : backsB p q <;> cases c2 : backsB q r <;> cases c3 : backsB p r <;> cases c4 : backsB q p <;> rw [c1] at b1 <;> rw [c2] at b2 <;> rw [c3] at b3 <;> rw [c4] at b4 <;>
    first
    | exact absurd (tr c1 c2) (by rw [c3]; decide)
    | (simp [F_law_leads_right_L, d_law_leads_right_L, runF, startP, endOf, dRet, dRetN, dIf, dIfS, dB, dBin, dUn, dV, dC, sE, asB, dSeq, dSet, dPar, dPar3, dAsg, dExpr, dAnd, dOr, dNot, bAnd, bOr, bNot, dTru, dCB, dCons, dNil, dTup, dLst, dChain, dPass, fCmpI, fIsN, gTp, gsCons, gsNil, gNm, mkTup, dSl, dPart, dNoPart, lim, iLt, iLe, iGt, iGe, mkLst, b1, b2, b3, b4, sf, eb, i0, i1, i2, truP]; done)
    | (have e2 : ∀ S, fEq false (.tup [eI p, eR p, eH p.out]) (.tup [eI q, eR q, eH q.out]) S = .ok (.bl true) S := fun S => by rw [et, decide_eq_true (an c1 c4)]
       simp [F_law_leads_right_L, d_law_leads_right_L, runF, startP, endOf, dRet, dRetN, dIf, dIfS, dB, dBin, dUn, dV, dC, sE, asB, dSeq, dSet, dPar, dPar3, dAsg, dExpr, dAnd, dOr, dNot, bAnd, bOr, bNot, dTru, dCB, dCons, dNil, dTup, dLst, dChain, dPass, fCmpI, fIsN, gTp, gsCons, gsNil, gNm, mkTup, dSl, dPart, dNoPart, lim, iLt, iLe, iGt, iGe, mkLst, b1, b2, b3, b4, sf, eb, i0, i1, i2, truP, t1, e2])
end G72
end
section
set_option Elab.async false
set_option linter.all false
set_option maxRecDepth 100000
set_option maxHeartbeats 4000000
set_option exponentiation.threshold 5000
namespace G72
open PySem PySem.Spec PyProof.Rows L2 Mi Ra
/-! ### refused -/
theorem w_NoPromise {K : Sto → Res PV} {S : Sto} (h : K S = .exc "NoPromise" [] S) : G_law_said_L K S = .ok (.str "promise") S := by
  have c : catT "NoPromise" = some true := by kernel_rfl
  have i0 : isT "NoPromise" (.glb "NoPromise") = some true := by kernel_rfl
  have iv : isT "NoPromise" (.ty "ValueError") = some true := by kernel_rfl
  have a : dAct 0 K [some .lam, none] S = .exc "NoPromise" [] S := h
  simp [G_law_said_L, lamF, d_law_said_L, dTry, runF, startP, endOf, dRet, dRetN, dIf, dIfS, dB, dBin, dUn, dV, dC, sE, asB, dSeq, dSet, dPar, dPar3, dAsg, dExpr, dAnd, dOr, dNot, bAnd, bOr, bNot, dTru, dCB, dCons, dNil, dTup, dLst, dChain, dPass, fCmpI, fIsN, gTp, gsCons, gsNil, gNm, mkTup, dSl, dPart, dNoPart, lim, iLt, iLe, iGt, iGe, a, c, tryEnd, errEnv, fIsE, isF, i0, iv, truP, cleanR, flatP]
def NP (v : PV) : Prop := ∀ S, F_is_promise [v] S = .ok (.bl false) S
theorem np_0 : NP .non := fun S => by kernel_rfl
theorem np_1 : NP (.str "?") := fun S => by kernel_rfl
theorem np_2 : NP (.tup []) := fun S => by kernel_rfl
theorem np_3 (a b c : PV) : NP (.tup [a, b, c]) := fun S => by
  have i : ∀ S, fIsi [.tup [a, b, c], .ty "tuple"] S = .ok (.bl true) S := fun S => rfl
  have l : ∀ S, fLen [.tup [a, b, c]] S = .ok (.int 3) S := fun S => rfl
  simp [F_is_promise, d_is_promise, runF, startP, endOf, dRet, dRetN, dIf, dIfS, dB, dBin, dUn, dV, dC, sE, asB, dSeq, dSet, dPar, dPar3, dAsg, dExpr, dAnd, dOr, dNot, bAnd, bOr, bNot, dTru, dCB, dCons, dNil, dTup, dLst, dChain, dPass, fCmpI, fIsN, gTp, gsCons, gsNil, gNm, mkTup, dSl, dPart, dNoPart, lim, iLt, iLe, iGt, iGe, i, l, w_eq, truP]
theorem np_4 (a b c : PV) : NP (.tup [.str "A", a, b, c]) := fun S => by
  have i : ∀ S, fIsi [.tup [.str "A", a, b, c], .ty "tuple"] S = .ok (.bl true) S := fun S => rfl
  have l : ∀ S, fLen [.tup [.str "A", a, b, c]] S = .ok (.int 4) S := fun S => rfl
  have x : ∀ S, fIx (.tup [.str "A", a, b, c]) (.int 0) S = .ok (.str "A") S := fun S => rfl
  have n : ∀ S, F_is_name [.str "A"] S = .ok (.bl false) S := fun S => by kernel_rfl
  simp [F_is_promise, d_is_promise, runF, startP, endOf, dRet, dRetN, dIf, dIfS, dB, dBin, dUn, dV, dC, sE, asB, dSeq, dSet, dPar, dPar3, dAsg, dExpr, dAnd, dOr, dNot, bAnd, bOr, bNot, dTru, dCB, dCons, dNil, dTup, dLst, dChain, dPass, fCmpI, fIsN, gTp, gsCons, gsNil, gNm, mkTup, dSl, dPart, dNoPart, lim, iLt, iLe, iGt, iGe, i, l, x, n, w_eq, truP]
theorem np_5 (xs : List PV) : NP (.nl xs) := fun S => by
  have i : ∀ S, fIsi [.nl xs, .ty "tuple"] S = .ok (.bl false) S := fun S => rfl
  simp [F_is_promise, d_is_promise, runF, startP, endOf, dRet, dRetN, dIf, dIfS, dB, dBin, dUn, dV, dC, sE, asB, dSeq, dSet, dPar, dPar3, dAsg, dExpr, dAnd, dOr, dNot, bAnd, bOr, bNot, dTru, dCB, dCons, dNil, dTup, dLst, dChain, dPass, fCmpI, fIsN, gTp, gsCons, gsNil, gNm, mkTup, dSl, dPart, dNoPart, lim, iLt, iLe, iGt, iGe, i, truP]
theorem np_6 : NP (.nd [] []) := fun S => by kernel_rfl
theorem np_chk {v : PV} (h : NP v) (S : Sto) : F_check_promise [v] S = .exc "NoPromise" [] S := by
  unfold NP at h
  simp [F_check_promise, d_check_promise, runF, startP, endOf, dRet, dRetN, dIf, dIfS, dB, dBin, dUn, dV, dC, sE, asB, dSeq, dSet, dPar, dPar3, dAsg, dExpr, dAnd, dOr, dNot, bAnd, bOr, bNot, dTru, dCB, dCons, dNil, dTup, dLst, dChain, dPass, fCmpI, fIsN, gTp, gsCons, gsNil, gNm, mkTup, dSl, dPart, dNoPart, lim, iLt, iLe, iGt, iGe, h, truP, dRaise]
theorem np_both1 {v : PV} {p : Pr} (h : NP v) (S : Sto) : F_check_both [v, ePr p] S = .exc "NoPromise" [] S := by
  have a := np_chk h
  simp [F_check_both, d_check_both, runF, startP, endOf, dRet, dRetN, dIf, dIfS, dB, dBin, dUn, dV, dC, sE, asB, dSeq, dSet, dPar, dPar3, dAsg, dExpr, dAnd, dOr, dNot, bAnd, bOr, bNot, dTru, dCB, dCons, dNil, dTup, dLst, dChain, dPass, fCmpI, fIsN, gTp, gsCons, gsNil, gNm, mkTup, dSl, dPart, dNoPart, lim, iLt, iLe, iGt, iGe, a]
theorem np_both2 {v : PV} {p : Pr} (k : PrOk p) (h : NP v) (S : Sto) : F_check_both [ePr p, v] S = .exc "NoPromise" [] S := by
  have a := np_chk h
  have b := e_chk k
  simp [F_check_both, d_check_both, runF, startP, endOf, dRet, dRetN, dIf, dIfS, dB, dBin, dUn, dV, dC, sE, asB, dSeq, dSet, dPar, dPar3, dAsg, dExpr, dAnd, dOr, dNot, bAnd, bOr, bNot, dTru, dCB, dCons, dNil, dTup, dLst, dChain, dPass, fCmpI, fIsN, gTp, gsCons, gsNil, gNm, mkTup, dSl, dPart, dNoPart, lim, iLt, iLe, iGt, iGe, a, b]
theorem ts_1 {v : PV} {p : Pr} (h : NP v) (S : Sto) : F_law_two_said_L [.glb "backing_shown", v, ePr p] S = .ok (.str "promise") S := by
  have b := np_both1 (p := p) h
  have e : ∀ S, F_backing_shown [v, ePr p] S = .exc "NoPromise" [] S := fun S => by simp [F_backing_shown, d_backing_shown, runF, startP, endOf, dRet, dRetN, dIf, dIfS, dB, dBin, dUn, dV, dC, sE, asB, dSeq, dSet, dPar, dPar3, dAsg, dExpr, dAnd, dOr, dNot, bAnd, bOr, bNot, dTru, dCB, dCons, dNil, dTup, dLst, dChain, dPass, fCmpI, fIsN, gTp, gsCons, gsNil, gNm, mkTup, dSl, dPart, dNoPart, lim, iLt, iLe, iGt, iGe, b]
  have w := w_NoPromise (K := fun S => (dCallV 0 t_law_two_said_L (dCons (dV 1) (dCons (dV 2) (dNil)))) [some (.glb "backing_shown"), some v, some (ePr p)] S) (S := S) (e S)
  simp only [F_law_two_said_L, d_law_two_said_L, runF, startP]
  show endOf (dRet (fun ρ S => G_law_said_L (fun S => (dCallV 0 t_law_two_said_L (dCons (dV 1) (dCons (dV 2) (dNil)))) ρ S) S) [some (.glb "backing_shown"), some v, some (ePr p)] S) = _
  simp only [dRet, w]
  rfl
theorem ts_2 {v : PV} {p : Pr} (k : PrOk p) (h : NP v) (S : Sto) : F_law_two_said_L [.glb "backing_shown", ePr p, v] S = .ok (.str "promise") S := by
  have b := np_both2 k h
  have e : ∀ S, F_backing_shown [ePr p, v] S = .exc "NoPromise" [] S := fun S => by simp [F_backing_shown, d_backing_shown, runF, startP, endOf, dRet, dRetN, dIf, dIfS, dB, dBin, dUn, dV, dC, sE, asB, dSeq, dSet, dPar, dPar3, dAsg, dExpr, dAnd, dOr, dNot, bAnd, bOr, bNot, dTru, dCB, dCons, dNil, dTup, dLst, dChain, dPass, fCmpI, fIsN, gTp, gsCons, gsNil, gNm, mkTup, dSl, dPart, dNoPart, lim, iLt, iLe, iGt, iGe, b]
  have w := w_NoPromise (K := fun S => (dCallV 0 t_law_two_said_L (dCons (dV 1) (dCons (dV 2) (dNil)))) [some (.glb "backing_shown"), some (ePr p), some v] S) (S := S) (e S)
  show endOf (dRet (fun ρ S => G_law_said_L (fun S => (dCallV 0 t_law_two_said_L (dCons (dV 1) (dCons (dV 2) (dNil)))) ρ S) S) [some (.glb "backing_shown"), some (ePr p), some v] S) = _
  simp only [dRet, w]
  rfl
theorem ts_3 {v : PV} {p : Pr} (h : NP v) (S : Sto) : F_law_two_said_L [.glb "backs", v, ePr p] S = .ok (.str "promise") S := by
  have b := np_chk h
  have e : ∀ S, F_backs [v, ePr p] S = .exc "NoPromise" [] S := fun S => by simp [F_backs, d_backs, runF, startP, endOf, dRet, dRetN, dIf, dIfS, dB, dBin, dUn, dV, dC, sE, asB, dSeq, dSet, dPar, dPar3, dAsg, dExpr, dAnd, dOr, dNot, bAnd, bOr, bNot, dTru, dCB, dCons, dNil, dTup, dLst, dChain, dPass, fCmpI, fIsN, gTp, gsCons, gsNil, gNm, mkTup, dSl, dPart, dNoPart, lim, iLt, iLe, iGt, iGe, b]
  have w := w_NoPromise (K := fun S => (dCallV 0 t_law_two_said_L (dCons (dV 1) (dCons (dV 2) (dNil)))) [some (.glb "backs"), some v, some (ePr p)] S) (S := S) (e S)
  show endOf (dRet (fun ρ S => G_law_said_L (fun S => (dCallV 0 t_law_two_said_L (dCons (dV 1) (dCons (dV 2) (dNil)))) ρ S) S) [some (.glb "backs"), some v, some (ePr p)] S) = _
  simp only [dRet, w]
  rfl
theorem ts_4 {v : PV} {p : Pr} (k : PrOk p) (h : NP v) (S : Sto) : F_law_two_said_L [.glb "backs", ePr p, v] S = .ok (.str "promise") S := by
  have b := np_chk h
  have c := e_chk k
  have e : ∀ S, F_backs [ePr p, v] S = .exc "NoPromise" [] S := fun S => by simp [F_backs, d_backs, runF, startP, endOf, dRet, dRetN, dIf, dIfS, dB, dBin, dUn, dV, dC, sE, asB, dSeq, dSet, dPar, dPar3, dAsg, dExpr, dAnd, dOr, dNot, bAnd, bOr, bNot, dTru, dCB, dCons, dNil, dTup, dLst, dChain, dPass, fCmpI, fIsN, gTp, gsCons, gsNil, gNm, mkTup, dSl, dPart, dNoPart, lim, iLt, iLe, iGt, iGe, b, c]
  have w := w_NoPromise (K := fun S => (dCallV 0 t_law_two_said_L (dCons (dV 1) (dCons (dV 2) (dNil)))) [some (.glb "backs"), some (ePr p), some v] S) (S := S) (e S)
  show endOf (dRet (fun ρ S => G_law_said_L (fun S => (dCallV 0 t_law_two_said_L (dCons (dV 1) (dCons (dV 2) (dNil)))) ρ S) S) [some (.glb "backs"), some (ePr p), some v] S) = _
  simp only [dRet, w]
  rfl
theorem ts_5 {v : PV} {p : Pr} (h : NP v) (S : Sto) : F_is_backing_shown [v, ePr p, .non] S = .exc "NoPromise" [] S := by
  have b := np_both1 (p := p) h
  simp [F_is_backing_shown, d_is_backing_shown, runF, startP, endOf, dRet, dRetN, dIf, dIfS, dB, dBin, dUn, dV, dC, sE, asB, dSeq, dSet, dPar, dPar3, dAsg, dExpr, dAnd, dOr, dNot, bAnd, bOr, bNot, dTru, dCB, dCons, dNil, dTup, dLst, dChain, dPass, fCmpI, fIsN, gTp, gsCons, gsNil, gNm, mkTup, dSl, dPart, dNoPart, lim, iLt, iLe, iGt, iGe, b]
end G72
end
section
set_option Elab.async false
set_option linter.all false
set_option maxRecDepth 100000
set_option maxHeartbeats 4000000
set_option exponentiation.threshold 5000
namespace G72
open PySem PySem.Spec PyProof.Rows L2 Mi Ra
/-! ### the law -/
def zwB : EnP → Sto → SR := (dSeq (dSet 4 (dCB F_law_promise_L (dCons (dV 1) (dNil)))) (dSeq (dSet 5 (dCB F_law_any_L (dCons (dV 1) (dCons (dLst false (dCons (dCB F_law_near_L (dCons (dV 1) (dCons (dV 4) (dNil)))) (dCons (dCB F_law_near_L (dCons (dV 1) (dCons (dV 4) (dNil)))) (dCons (dCB F_law_promise_L (dCons (dV 1) (dNil))) (dNil))))) (dNil))))) (dSeq (dSet 7 (dCB F_law_near_L (dCons (dV 1) (dCons (dV 5) (dNil))))) (dSeq (dIfS (bOr (bNot (dTru (dCB F_law_pair_right_L (dCons (dV 1) (dCons (dV 4) (dCons (dV 5) (dNil))))))) (bNot (dTru (dCB F_law_pair_right_L (dCons (dV 1) (dCons (dV 5) (dCons (dV 4) (dNil)))))))) (dRet (dC (.bl false))) (dPass)) (dSeq (dIfS (bNot (dTru (dCB F_law_leads_right_L (dCons (dV 4) (dCons (dV 5) (dCons (dV 7) (dNil))))))) (dRet (dC (.bl false))) (dPass)) (dSeq (dSet 8 (dCB F_law_any_L (dCons (dV 1) (dCons (dLst false (dCons (dC .non) (dCons (dC (.str ("?" : Str))) (dCons (dTup (dNil)) (dCons (dSl false (dV 4) (dNoPart) (dPart (dC (.int 3)))) (dCons (dBin (fAdd false) (dTup (dCons (dC (.str ("A" : Str))) (dNil))) (dSl false (dV 4) (dPart (dC (.int 1))) (dNoPart))) (dCons (dLst false (dCons (dBin fIx (dV 4) (dC (.int 0))) (dCons (dBin fIx (dV 4) (dC (.int 1))) (dCons (dBin fIx (dV 4) (dC (.int 2))) (dCons (dBin fIx (dV 4) (dC (.int 3))) (dNil)))))) (dCons (dDict0) (dNil))))))))) (dNil))))) (dSeq (dSet 9 (dLst true (dNil))) (dSeq (dFor (iSeq (dTup (dCons (dC (.glb ("backing_shown" : Str))) (dCons (dC (.glb ("backs" : Str))) (dNil))))) (gNm 10) (dSet 9 (dBin (fAdd true) (dV 9) (dLst false (dCons (dCB F_law_two_said_L (dCons (dV 10) (dCons (dV 8) (dCons (dV 4) (dNil))))) (dCons (dCB F_law_two_said_L (dCons (dV 10) (dCons (dV 4) (dCons (dV 8) (dNil))))) (dNil))))))) (dSeq (dExpr (dApp (dV 9) (dCons (fun ρ S => G_law_said_L (fun S => (dCB F_is_backing_shown (dCons (dV 8) (dCons (dV 4) (dCons (dC .non) (dNil))))) ρ S) S) (dNil)))) (dIfS (dB (dBin (fEq true) (dV 9) (dBin (fMul false) (dLst false (dCons (dC (.str ("promise" : Str))) (dNil))) (dC (.int 5))))) (dRet (dC (.bl false))) (dPass)))))))))))
def zwA : EnP → Sto → SR := (dSet 9 (dBin (fAdd true) (dV 9) (dLst false (dCons (dCB F_law_two_said_L (dCons (dV 10) (dCons (dV 8) (dCons (dV 4) (dNil))))) (dCons (dCB F_law_two_said_L (dCons (dV 10) (dCons (dV 4) (dCons (dV 8) (dNil))))) (dNil))))))
abbrev pm : PV := .str "promise"
theorem zw_draw {b : Int} {S : Sto} {a0 a2 a3 a4 a5 a6 a7 a8 a9 a10 : Option PV} (hk : Hk b S) (hb : b ≤ 800000000) :
    ∃ (p q r : Pr) (S' : Sto × Sto × Sto), (dSet 4 (dCB F_law_promise_L (dCons (dV 1) (dNil)))) [a0, some (.ref 0), a2, a3, a4, a5, a6, a7, a8, a9, a10] S = .nx [a0, some (.ref 0), a2, a3, some (ePr p), a5, a6, a7, a8, a9, a10] S'.1 ∧
      (dSet 5 (dCB F_law_any_L (dCons (dV 1) (dCons (dLst false (dCons (dCB F_law_near_L (dCons (dV 1) (dCons (dV 4) (dNil)))) (dCons (dCB F_law_near_L (dCons (dV 1) (dCons (dV 4) (dNil)))) (dCons (dCB F_law_promise_L (dCons (dV 1) (dNil))) (dNil))))) (dNil))))) [a0, some (.ref 0), a2, a3, some (ePr p), a5, a6, a7, a8, a9, a10] S'.1 = .nx [a0, some (.ref 0), a2, a3, some (ePr p), some (ePr q), a6, a7, a8, a9, a10] S'.2.1 ∧
      (dSet 7 (dCB F_law_near_L (dCons (dV 1) (dCons (dV 5) (dNil))))) [a0, some (.ref 0), a2, a3, some (ePr p), some (ePr q), a6, a7, a8, a9, a10] S'.2.1 = .nx [a0, some (.ref 0), a2, a3, some (ePr p), some (ePr q), a6, some (ePr r), a8, a9, a10] S'.2.2 ∧
      PrOk p ∧ PrOk q ∧ PrOk r ∧ Hk (b + 200) S'.2.2 := by
  obtain ⟨p, S1, e1, z1, k1⟩ := l_promise hk (by omega)
  obtain ⟨u, S2, e2, z2, k2⟩ := l_near k1 (by omega) z1 (by decide) (by decide +kernel) (by decide)
  obtain ⟨v, S3, e3, z3, k3⟩ := l_near k2 (by omega) z1 (by decide) (by decide +kernel) (by decide)
  obtain ⟨w, S4, e4, z4, k4⟩ := l_promise k3 (by omega)
  obtain ⟨y, hy, S5, e5, k5⟩ := e_any (xs := [ePr u, ePr v, ePr w]) k4 (by omega) (by simp) (by simp)
  have hy' : ∃ q, y = ePr q ∧ PZ 4000000 1 q := by
    simp only [List.mem_cons, List.not_mem_nil, or_false] at hy
    rcases hy with rfl | rfl | rfl
    · exact ⟨u, rfl, z2.mono (by decide) (by decide)⟩
    · exact ⟨v, rfl, z3.mono (by decide) (by decide)⟩
    · exact ⟨w, rfl, z4.mono (by decide) (by decide)⟩
  obtain ⟨q, rfl, zq⟩ := hy'
  obtain ⟨r, S6, e6, z6, k6⟩ := l_near k5 (by omega) zq (by decide) (by decide +kernel) (by decide)
  refine ⟨p, q, r, ⟨S1, S5, S6⟩, ?_, ?_, ?_, z1.ok (by decide +kernel) (by decide), zq.ok (by decide +kernel) (by decide), z6.ok (by decide +kernel) (by decide), k6.mono (by omega)⟩
  · simp [runF, startP, endOf, dRet, dRetN, dIf, dIfS, dB, dBin, dUn, dV, dC, sE, asB, dSeq, dSet, dPar, dPar3, dAsg, dExpr, dAnd, dOr, dNot, bAnd, bOr, bNot, dTru, dCB, dCons, dNil, dTup, dLst, dChain, dPass, fCmpI, fIsN, gTp, gsCons, gsNil, gNm, mkTup, dSl, dPart, dNoPart, lim, iLt, iLe, iGt, iGe, e1]
  · simp [runF, startP, endOf, dRet, dRetN, dIf, dIfS, dB, dBin, dUn, dV, dC, sE, asB, dSeq, dSet, dPar, dPar3, dAsg, dExpr, dAnd, dOr, dNot, bAnd, bOr, bNot, dTru, dCB, dCons, dNil, dTup, dLst, dChain, dPass, fCmpI, fIsN, gTp, gsCons, gsNil, gNm, mkTup, dSl, dPart, dNoPart, lim, iLt, iLe, iGt, iGe, e2, e3, e4, mkLst, e5]
  · simp [runF, startP, endOf, dRet, dRetN, dIf, dIfS, dB, dBin, dUn, dV, dC, sE, asB, dSeq, dSet, dPar, dPar3, dAsg, dExpr, dAnd, dOr, dNot, bAnd, bOr, bNot, dTru, dCB, dCons, dNil, dTup, dLst, dChain, dPass, fCmpI, fIsN, gTp, gsCons, gsNil, gNm, mkTup, dSl, dPart, dNoPart, lim, iLt, iLe, iGt, iGe, e6]
theorem zw_step {b : Int} {S : Sto} {a0 a2 a3 a4 a5 a6 a7 a8 a9 a10 : Option PV} (hk : Hk b S) (hb : b ≤ 800000000) :
    ∃ S' b4 b5 b7 b8 b9 b10, zwB [a0, some (.ref 0), a2, a3, a4, a5, a6, a7, a8, a9, a10] S = .nx [a0, some (.ref 0), a2, a3, b4, b5, a6, b7, b8, b9, b10] S' ∧ Hk (b + 300) S' := by
  obtain ⟨p, q, r, ⟨S1, S2, S3⟩, s1, s2, s3, hp, hq, hr, k3⟩ := zw_draw (a0 := a0) (a2 := a2) (a3 := a3) (a4 := a4) (a5 := a5) (a6 := a6) (a7 := a7) (a8 := a8) (a9 := a9) (a10 := a10) hk hb
  simp only at s1 s2 s3 k3
  have l1 := l_pair hp hq (h0 := .ref 0)
  have l2 := l_pair hq hp (h0 := .ref 0)
  have l3 := l_leads hp hq hr
  obtain ⟨v, hv, S4, e4, k4⟩ := e_any (xs := [.non, .str "?", .tup [], .tup [.str p.name, eI p, eR p], .tup [.str "A", eI p, eR p, eH p.out], .nl [.str p.name, eI p, eR p, eH p.out], .nd [] []]) k3 (by omega) (by simp) (by simp)
  have nv : NP v := by
    simp only [List.mem_cons, List.not_mem_nil, or_false] at hv
    rcases hv with rfl | rfl | rfl | rfl | rfl | rfl | rfl
    · exact np_0
    · exact np_1
    · exact np_2
    · exact np_3 _ _ _
    · exact np_4 _ _ _
    · exact np_5 _
    · exact np_6
  have s4 : (dIfS (bOr (bNot (dTru (dCB F_law_pair_right_L (dCons (dV 1) (dCons (dV 4) (dCons (dV 5) (dNil))))))) (bNot (dTru (dCB F_law_pair_right_L (dCons (dV 1) (dCons (dV 5) (dCons (dV 4) (dNil)))))))) (dRet (dC (.bl false))) (dPass)) [a0, some (.ref 0), a2, a3, some (ePr p), some (ePr q), a6, some (ePr r), a8, a9, a10] S3 = .nx [a0, some (.ref 0), a2, a3, some (ePr p), some (ePr q), a6, some (ePr r), a8, a9, a10] S3 := by
    simp [runF, startP, endOf, dRet, dRetN, dIf, dIfS, dB, dBin, dUn, dV, dC, sE, asB, dSeq, dSet, dPar, dPar3, dAsg, dExpr, dAnd, dOr, dNot, bAnd, bOr, bNot, dTru, dCB, dCons, dNil, dTup, dLst, dChain, dPass, fCmpI, fIsN, gTp, gsCons, gsNil, gNm, mkTup, dSl, dPart, dNoPart, lim, iLt, iLe, iGt, iGe, l1, l2, truP]
  have s5 : (dIfS (bNot (dTru (dCB F_law_leads_right_L (dCons (dV 4) (dCons (dV 5) (dCons (dV 7) (dNil))))))) (dRet (dC (.bl false))) (dPass)) [a0, some (.ref 0), a2, a3, some (ePr p), some (ePr q), a6, some (ePr r), a8, a9, a10] S3 = .nx [a0, some (.ref 0), a2, a3, some (ePr p), some (ePr q), a6, some (ePr r), a8, a9, a10] S3 := by
    simp [runF, startP, endOf, dRet, dRetN, dIf, dIfS, dB, dBin, dUn, dV, dC, sE, asB, dSeq, dSet, dPar, dPar3, dAsg, dExpr, dAnd, dOr, dNot, bAnd, bOr, bNot, dTru, dCB, dCons, dNil, dTup, dLst, dChain, dPass, fCmpI, fIsN, gTp, gsCons, gsNil, gNm, mkTup, dSl, dPart, dNoPart, lim, iLt, iLe, iGt, iGe, l3, truP]
  have t1 : ∀ S, fSl false (ePr p) none (some 3) S = .ok (.tup [.str p.name, eI p, eR p]) S := fun S => rfl
  have t2 : ∀ S, fSl false (ePr p) (some 1) none S = .ok (.tup [eI p, eR p, eH p.out]) S := fun S => rfl
  have t3 : ∀ S, fAdd false (.tup [.str "A"]) (.tup [eI p, eR p, eH p.out]) S = .ok (.tup [.str "A", eI p, eR p, eH p.out]) S := fun S => rfl
  have d0 : ∀ ρ S, dDict0 ρ S = .ok (.nd [] []) S := fun ρ S => rfl
  have s6 : (dSet 8 (dCB F_law_any_L (dCons (dV 1) (dCons (dLst false (dCons (dC .non) (dCons (dC (.str ("?" : Str))) (dCons (dTup (dNil)) (dCons (dSl false (dV 4) (dNoPart) (dPart (dC (.int 3)))) (dCons (dBin (fAdd false) (dTup (dCons (dC (.str ("A" : Str))) (dNil))) (dSl false (dV 4) (dPart (dC (.int 1))) (dNoPart))) (dCons (dLst false (dCons (dBin fIx (dV 4) (dC (.int 0))) (dCons (dBin fIx (dV 4) (dC (.int 1))) (dCons (dBin fIx (dV 4) (dC (.int 2))) (dCons (dBin fIx (dV 4) (dC (.int 3))) (dNil)))))) (dCons (dDict0) (dNil))))))))) (dNil))))) [a0, some (.ref 0), a2, a3, some (ePr p), some (ePr q), a6, some (ePr r), a8, a9, a10] S3 = .nx [a0, some (.ref 0), a2, a3, some (ePr p), some (ePr q), a6, some (ePr r), some v, a9, a10] S4 := by
    simp [runF, startP, endOf, dRet, dRetN, dIf, dIfS, dB, dBin, dUn, dV, dC, sE, asB, dSeq, dSet, dPar, dPar3, dAsg, dExpr, dAnd, dOr, dNot, bAnd, bOr, bNot, dTru, dCB, dCons, dNil, dTup, dLst, dChain, dPass, fCmpI, fIsN, gTp, gsCons, gsNil, gNm, mkTup, dSl, dPart, dNoPart, lim, iLt, iLe, iGt, iGe, mkLst, t1, t2, t3, d0, p0, p1, p2, p3, e4]
  have s7 : (dSet 9 (dLst true (dNil))) [a0, some (.ref 0), a2, a3, some (ePr p), some (ePr q), a6, some (ePr r), some v, a9, a10] S4 = .nx [a0, some (.ref 0), a2, a3, some (ePr p), some (ePr q), a6, some (ePr r), some v, some (.ref S4.length), a10] (S4 ++ [SO.lst []]) := by
    simp [runF, startP, endOf, dRet, dRetN, dIf, dIfS, dB, dBin, dUn, dV, dC, sE, asB, dSeq, dSet, dPar, dPar3, dAsg, dExpr, dAnd, dOr, dNot, bAnd, bOr, bNot, dTru, dCB, dCons, dNil, dTup, dLst, dChain, dPass, fCmpI, fIsN, gTp, gsCons, gsNil, gNm, mkTup, dSl, dPart, dNoPart, lim, iLt, iLe, iGt, iGe, mkLst]
  have g1 := ts_1 (p := p) nv
  have g2 := ts_2 hp nv
  have g3 := ts_3 (p := p) nv
  have g4 := ts_4 hp nv
  have a1 : fAdd true (.ref S4.length) (.nl [pm, pm]) (S4 ++ [SO.lst []]) = .ok (.ref (S4.length + 1)) (S4 ++ [SO.lst [], SO.lst [pm, pm]]) := by
    simp [fAdd, lstT, ga0, mkLst, lim]
  have a2' : fAdd true (.ref (S4.length + 1)) (.nl [pm, pm]) (S4 ++ [SO.lst [], SO.lst [pm, pm]]) = .ok (.ref (S4.length + 2)) (S4 ++ [SO.lst [], SO.lst [pm, pm], SO.lst [pm, pm, pm, pm]]) := by
    simp [fAdd, lstT, ga1, mkLst, lim]
  have m1 : zwA [a0, some (.ref 0), a2, a3, some (ePr p), some (ePr q), a6, some (ePr r), some v, some (.ref S4.length), some (.glb "backing_shown")] (S4 ++ [SO.lst []]) = .nx [a0, some (.ref 0), a2, a3, some (ePr p), some (ePr q), a6, some (ePr r), some v, some (.ref (S4.length + 1)), some (.glb "backing_shown")] (S4 ++ [SO.lst [], SO.lst [pm, pm]]) := by
    simp [zwA, runF, startP, endOf, dRet, dRetN, dIf, dIfS, dB, dBin, dUn, dV, dC, sE, asB, dSeq, dSet, dPar, dPar3, dAsg, dExpr, dAnd, dOr, dNot, bAnd, bOr, bNot, dTru, dCB, dCons, dNil, dTup, dLst, dChain, dPass, fCmpI, fIsN, gTp, gsCons, gsNil, gNm, mkTup, dSl, dPart, dNoPart, lim, iLt, iLe, iGt, iGe, g1, g2, mkLst, a1]
  have m2 : zwA [a0, some (.ref 0), a2, a3, some (ePr p), some (ePr q), a6, some (ePr r), some v, some (.ref (S4.length + 1)), some (.glb "backs")] (S4 ++ [SO.lst [], SO.lst [pm, pm]]) = .nx [a0, some (.ref 0), a2, a3, some (ePr p), some (ePr q), a6, some (ePr r), some v, some (.ref (S4.length + 2)), some (.glb "backs")] (S4 ++ [SO.lst [], SO.lst [pm, pm], SO.lst [pm, pm, pm, pm]]) := by
    simp [zwA, runF, startP, endOf, dRet, dRetN, dIf, dIfS, dB, dBin, dUn, dV, dC, sE, asB, dSeq, dSet, dPar, dPar3, dAsg, dExpr, dAnd, dOr, dNot, bAnd, bOr, bNot, dTru, dCB, dCons, dNil, dTup, dLst, dChain, dPass, fCmpI, fIsN, gTp, gsCons, gsNil, gNm, mkTup, dSl, dPart, dNoPart, lim, iLt, iLe, iGt, iGe, g3, g4, mkLst, a2']
  have s8 : (dFor (iSeq (dTup (dCons (dC (.glb ("backing_shown" : Str))) (dCons (dC (.glb ("backs" : Str))) (dNil))))) (gNm 10) zwA) [a0, some (.ref 0), a2, a3, some (ePr p), some (ePr q), a6, some (ePr r), some v, some (.ref S4.length), a10] (S4 ++ [SO.lst []]) = .nx [a0, some (.ref 0), a2, a3, some (ePr p), some (ePr q), a6, some (ePr r), some v, some (.ref (S4.length + 2)), some (.glb "backs")] (S4 ++ [SO.lst [], SO.lst [pm, pm], SO.lst [pm, pm, pm, pm]]) := by
    have i : (iSeq (dTup (dCons (dC (.glb ("backing_shown" : Str))) (dCons (dC (.glb ("backs" : Str))) (dNil))))) [a0, some (.ref 0), a2, a3, some (ePr p), some (ePr q), a6, some (ePr r), some v, some (.ref S4.length), a10] (S4 ++ [SO.lst []]) = .ok [.glb "backing_shown", .glb "backs"] (S4 ++ [SO.lst []]) := rfl
    have n1 : gNm 10 (.glb "backing_shown") [a0, some (.ref 0), a2, a3, some (ePr p), some (ePr q), a6, some (ePr r), some v, some (.ref S4.length), a10] (S4 ++ [SO.lst []]) = .ok [a0, some (.ref 0), a2, a3, some (ePr p), some (ePr q), a6, some (ePr r), some v, some (.ref S4.length), some (.glb "backing_shown")] (S4 ++ [SO.lst []]) := rfl
    have n2 : gNm 10 (.glb "backs") [a0, some (.ref 0), a2, a3, some (ePr p), some (ePr q), a6, some (ePr r), some v, some (.ref (S4.length + 1)), some (.glb "backing_shown")] (S4 ++ [SO.lst [], SO.lst [pm, pm]]) = .ok [a0, some (.ref 0), a2, a3, some (ePr p), some (ePr q), a6, some (ePr r), some v, some (.ref (S4.length + 1)), some (.glb "backs")] (S4 ++ [SO.lst [], SO.lst [pm, pm]]) := rfl
    unfold dFor
    rw [i]
    simp only [sE, forP, n1, m1, n2, m2]
  let S5 : Sto := S4 ++ [SO.lst [], SO.lst [pm, pm], SO.lst [pm, pm, pm, pm, pm]]
  have g5 : G_law_said_L (fun S => (dCB F_is_backing_shown (dCons (dV 8) (dCons (dV 4) (dCons (dC .non) (dNil))))) [a0, some (.ref 0), a2, a3, some (ePr p), some (ePr q), a6, some (ePr r), some v, some (.ref (S4.length + 2)), some (.glb "backs")] S) (S4 ++ [SO.lst [], SO.lst [pm, pm], SO.lst [pm, pm, pm, pm]]) = .ok pm (S4 ++ [SO.lst [], SO.lst [pm, pm], SO.lst [pm, pm, pm, pm]]) :=
    w_NoPromise (ts_5 (p := p) nv _)
  have ga2 : ∀ (a b c : SO), (S4 ++ [a, b, c])[S4.length + 2]? = some c := fun a b c => by simp
  have sa2 : ∀ (a b c d : SO), (S4 ++ [a, b, c]).set (S4.length + 2) d = S4 ++ [a, b, d] := fun a b c d => by simp
  have s9 : (dExpr (dApp (dV 9) (dCons (fun ρ S => G_law_said_L (fun S => (dCB F_is_backing_shown (dCons (dV 8) (dCons (dV 4) (dCons (dC .non) (dNil))))) ρ S) S) (dNil)))) [a0, some (.ref 0), a2, a3, some (ePr p), some (ePr q), a6, some (ePr r), some v, some (.ref (S4.length + 2)), some (.glb "backs")] (S4 ++ [SO.lst [], SO.lst [pm, pm], SO.lst [pm, pm, pm, pm]]) = .nx [a0, some (.ref 0), a2, a3, some (ePr p), some (ePr q), a6, some (ePr r), some v, some (.ref (S4.length + 2)), some (.glb "backs")] S5 := by
    simp only [dExpr, dApp, dV, dCons, dNil, List.getElem?_cons_succ, List.getElem?_cons_zero, Res.bind_ok, ga2, g5]
    simp [fApp, lim, S5]
  have gS : S5[S4.length + 2]? = some (SO.lst [pm, pm, pm, pm, pm]) := ga2 _ _ _
  have ml : ∀ S, fMul false (.nl [pm]) (.int 5) S = .ok (.nl [pm, pm, pm, pm, pm]) S := fun S => rfl
  have eq : fEq true (.ref (S4.length + 2)) (.nl [pm, pm, pm, pm, pm]) S5 = .ok (.bl false) S5 := by
    have d1 : toDS (.ref (S4.length + 2)) S5 = some (.list [.str "promise", .str "promise", .str "promise", .str "promise", .str "promise"]) := by
      simp only [toDS, gS]
      rfl
    rw [eq_dat (d := .list [.str "promise", .str "promise", .str "promise", .str "promise", .str "promise"]) (e := .list [.str "promise", .str "promise", .str "promise", .str "promise", .str "promise"]) d1 rfl (by decide +kernel) (by decide +kernel)]
    have : PyData.eqv (.list [.str "promise", .str "promise", .str "promise", .str "promise", .str "promise"]) (.list [.str "promise", .str "promise", .str "promise", .str "promise", .str "promise"]) = true := by decide +kernel
    rw [this]
    rfl
  have s10 : (dIfS (dB (dBin (fEq true) (dV 9) (dBin (fMul false) (dLst false (dCons (dC (.str ("promise" : Str))) (dNil))) (dC (.int 5))))) (dRet (dC (.bl false))) (dPass)) [a0, some (.ref 0), a2, a3, some (ePr p), some (ePr q), a6, some (ePr r), some v, some (.ref (S4.length + 2)), some (.glb "backs")] S5 = .nx [a0, some (.ref 0), a2, a3, some (ePr p), some (ePr q), a6, some (ePr r), some v, some (.ref (S4.length + 2)), some (.glb "backs")] S5 := by
    generalize S5 = SS at *
    simp [runF, startP, endOf, dRet, dRetN, dIf, dIfS, dB, dBin, dUn, dV, dC, sE, asB, dSeq, dSet, dPar, dPar3, dAsg, dExpr, dAnd, dOr, dNot, bAnd, bOr, bNot, dTru, dCB, dCons, dNil, dTup, dLst, dChain, dPass, fCmpI, fIsN, gTp, gsCons, gsNil, gNm, mkTup, dSl, dPart, dNoPart, lim, iLt, iLe, iGt, iGe, mkLst, ml, eq]
  refine ⟨S5, some (ePr p), some (ePr q), some (ePr r), some v, some (.ref (S4.length + 2)), some (.glb "backs"), ?_, (k4.more _).mono (by omega)⟩
  have ds : zwB = dSeq (dSet 4 (dCB F_law_promise_L (dCons (dV 1) (dNil)))) (dSeq (dSet 5 (dCB F_law_any_L (dCons (dV 1) (dCons (dLst false (dCons (dCB F_law_near_L (dCons (dV 1) (dCons (dV 4) (dNil)))) (dCons (dCB F_law_near_L (dCons (dV 1) (dCons (dV 4) (dNil)))) (dCons (dCB F_law_promise_L (dCons (dV 1) (dNil))) (dNil))))) (dNil))))) (dSeq (dSet 7 (dCB F_law_near_L (dCons (dV 1) (dCons (dV 5) (dNil))))) (dSeq (dIfS (bOr (bNot (dTru (dCB F_law_pair_right_L (dCons (dV 1) (dCons (dV 4) (dCons (dV 5) (dNil))))))) (bNot (dTru (dCB F_law_pair_right_L (dCons (dV 1) (dCons (dV 5) (dCons (dV 4) (dNil)))))))) (dRet (dC (.bl false))) (dPass)) (dSeq (dIfS (bNot (dTru (dCB F_law_leads_right_L (dCons (dV 4) (dCons (dV 5) (dCons (dV 7) (dNil))))))) (dRet (dC (.bl false))) (dPass)) (dSeq (dSet 8 (dCB F_law_any_L (dCons (dV 1) (dCons (dLst false (dCons (dC .non) (dCons (dC (.str ("?" : Str))) (dCons (dTup (dNil)) (dCons (dSl false (dV 4) (dNoPart) (dPart (dC (.int 3)))) (dCons (dBin (fAdd false) (dTup (dCons (dC (.str ("A" : Str))) (dNil))) (dSl false (dV 4) (dPart (dC (.int 1))) (dNoPart))) (dCons (dLst false (dCons (dBin fIx (dV 4) (dC (.int 0))) (dCons (dBin fIx (dV 4) (dC (.int 1))) (dCons (dBin fIx (dV 4) (dC (.int 2))) (dCons (dBin fIx (dV 4) (dC (.int 3))) (dNil)))))) (dCons (dDict0) (dNil))))))))) (dNil))))) (dSeq (dSet 9 (dLst true (dNil))) (dSeq (dFor (iSeq (dTup (dCons (dC (.glb ("backing_shown" : Str))) (dCons (dC (.glb ("backs" : Str))) (dNil))))) (gNm 10) zwA) (dSeq (dExpr (dApp (dV 9) (dCons (fun ρ S => G_law_said_L (fun S => (dCB F_is_backing_shown (dCons (dV 8) (dCons (dV 4) (dCons (dC .non) (dNil))))) ρ S) S) (dNil)))) (dIfS (dB (dBin (fEq true) (dV 9) (dBin (fMul false) (dLst false (dCons (dC (.str ("promise" : Str))) (dNil))) (dC (.int 5))))) (dRet (dC (.bl false))) (dPass)))))))))) := rfl
  rw [ds]
  generalize (dFor (iSeq (dTup (dCons (dC (.glb ("backing_shown" : Str))) (dCons (dC (.glb ("backs" : Str))) (dNil))))) (gNm 10) zwA) = F8 at *
  simp only [dSeq, s1, s2, s3, s4, s5, s6, s7, s8, s9, s10]
theorem zw_loop {a0 a2 a3 : Option PV} : ∀ (ys : List PV) (b : Int) (S : Sto) (a4 a5 a6 a7 a8 a9 a10 : Option PV), Hk b S → b + 300 * ys.length ≤ 800000000 → ∃ S' b4 b5 b6 b7 b8 b9 b10, forP (gNm 6) zwB ys [a0, some (.ref 0), a2, a3, a4, a5, a6, a7, a8, a9, a10] S = .nx [a0, some (.ref 0), a2, a3, b4, b5, b6, b7, b8, b9, b10] S'
  | [], b, S, a4, a5, a6, a7, a8, a9, a10, _, _ => ⟨S, a4, a5, a6, a7, a8, a9, a10, rfl⟩
  | y :: ys, b, S, a4, a5, a6, a7, a8, a9, a10, hk, hb => by
    rw [List.length_cons] at hb
    obtain ⟨S1, c4, c5, c7, c8, c9, c10, e1, k1⟩ := zw_step (a0 := a0) (a2 := a2) (a3 := a3) (a4 := a4) (a5 := a5) (a6 := some y) (a7 := a7) (a8 := a8) (a9 := a9) (a10 := a10) hk (by omega)
    obtain ⟨S', b4, b5, b6, b7, b8, b9, b10, ih⟩ := zw_loop (a0 := a0) (a2 := a2) (a3 := a3) ys (b + 300) S1 c4 c5 (some y) c7 c8 c9 c10 k1 (by omega)
    refine ⟨S', b4, b5, b6, b7, b8, b9, b10, ?_⟩
    rw [forP]
    have g : gNm 6 y [a0, some (.ref 0), a2, a3, a4, a5, a6, a7, a8, a9, a10] S = .ok [a0, some (.ref 0), a2, a3, a4, a5, some y, a7, a8, a9, a10] S := rfl
    rw [g]
    simp only [sE, e1]
    exact ih
abbrev u0 : PV := .tup [.tup [.int 0, .int 1], .tup [.int 1, .int 1], .tup [.int 0, .int 1]]
abbrev w0 : PV := .tup [.tup [.int 0, .int 1], .tup [.int 2, .int 1], .tup [.int 1, .int 8]]
abbrev o1 : PV := .tup [.str "a", .tup [w0], .tup [], u0]
abbrev o2 : PV := .tup [.str "b", .tup [u0], .tup [], w0]
theorem t_1 (S : Sto) : F_backing_shown [o1, o2] S = .ok (.tup [.str "backs"]) S := by kernel_rfl
theorem t_2 (S : Sto) : F_backing_shown [o2, o1] S = .ok (.tup [.str "ins", .int 0]) S := by kernel_rfl
theorem law_true : ∀ ns : List Int, ns.length ≤ 63 → (∀ z ∈ ns, PySem.Builtin.Int.intBits z ≤ 1048576) → ∃ S1, F_law [.fl (ns.map .int)] [] = .ok (.bl true) S1 := fun ns hl hbt => by
  obtain ⟨S0, e0, k0⟩ := e_hand hl hbt
  obtain ⟨S', b4, b5, b6, b7, b8, b9, b10, hl4⟩ := zw_loop (a0 := some (.fl (ns.map .int))) (a2 := some u0) (a3 := some w0) (Mi.upTo 0 6) 0 S0 (some o1) (some o2) none none none none none k0 (by decide)
  refine ⟨S', ?_⟩
  have f1 : ∀ D, dFor (iRange (dCons (dC (.int 6)) (dNil))) (gNm 6) zwB D S0 = forP (gNm 6) zwB (Mi.upTo 0 6) D S0 := fun D => rfl
  have dd : d_law = dSeq (dSet 1 (dCB F_law_hand_L (dCons (dV 0) (dNil)))) (dSeq (dAsg (dTup (dCons (dTup (dCons (dTup (dCons (dC (.int 0)) (dCons (dC (.int 1)) (dNil)))) (dCons (dTup (dCons (dC (.int 1)) (dCons (dC (.int 1)) (dNil)))) (dCons (dTup (dCons (dC (.int 0)) (dCons (dC (.int 1)) (dNil)))) (dNil))))) (dCons (dTup (dCons (dTup (dCons (dC (.int 0)) (dCons (dC (.int 1)) (dNil)))) (dCons (dTup (dCons (dC (.int 2)) (dCons (dC (.int 1)) (dNil)))) (dCons (dTup (dCons (dC (.int 1)) (dCons (dC (.int 8)) (dNil)))) (dNil))))) (dNil)))) (gTp 2 (gsCons (gNm 2) (gsCons (gNm 3) (gsNil))))) (dSeq (dAsg (dTup (dCons (dTup (dCons (dC (.str ("a" : Str))) (dCons (dTup (dCons (dV 3) (dNil))) (dCons (dTup (dNil)) (dCons (dV 2) (dNil)))))) (dCons (dTup (dCons (dC (.str ("b" : Str))) (dCons (dTup (dCons (dV 2) (dNil))) (dCons (dTup (dNil)) (dCons (dV 3) (dNil)))))) (dNil)))) (gTp 2 (gsCons (gNm 4) (gsCons (gNm 5) (gsNil))))) (dSeq (dIfS (bOr (dB (dBin (fEq true) (dCB F_backing_shown (dCons (dV 4) (dCons (dV 5) (dNil)))) (dTup (dCons (dC (.str ("backs" : Str))) (dNil))))) (dB (dBin (fEq true) (dCB F_backing_shown (dCons (dV 5) (dCons (dV 4) (dNil)))) (dTup (dCons (dC (.str ("ins" : Str))) (dCons (dC (.int 0)) (dNil))))))) (dRet (dC (.bl false))) (dPass)) (dSeq (dFor (iRange (dCons (dC (.int 6)) (dNil))) (gNm 6) zwB) (dRet (dC (.bl true))))))) := rfl
  have s0 : (dSet 1 (dCB F_law_hand_L (dCons (dV 0) (dNil)))) [some (.fl (ns.map .int)), none, none, none, none, none, none, none, none, none, none] [] = .nx [some (.fl (ns.map .int)), some (.ref 0), none, none, none, none, none, none, none, none, none] S0 := by simp [runF, startP, endOf, dRet, dRetN, dIf, dIfS, dB, dBin, dUn, dV, dC, sE, asB, dSeq, dSet, dPar, dPar3, dAsg, dExpr, dAnd, dOr, dNot, bAnd, bOr, bNot, dTru, dCB, dCons, dNil, dTup, dLst, dChain, dPass, fCmpI, fIsN, gTp, gsCons, gsNil, gNm, mkTup, dSl, dPart, dNoPart, lim, iLt, iLe, iGt, iGe, e0]
  have s1 : (dAsg (dTup (dCons (dTup (dCons (dTup (dCons (dC (.int 0)) (dCons (dC (.int 1)) (dNil)))) (dCons (dTup (dCons (dC (.int 1)) (dCons (dC (.int 1)) (dNil)))) (dCons (dTup (dCons (dC (.int 0)) (dCons (dC (.int 1)) (dNil)))) (dNil))))) (dCons (dTup (dCons (dTup (dCons (dC (.int 0)) (dCons (dC (.int 1)) (dNil)))) (dCons (dTup (dCons (dC (.int 2)) (dCons (dC (.int 1)) (dNil)))) (dCons (dTup (dCons (dC (.int 1)) (dCons (dC (.int 8)) (dNil)))) (dNil))))) (dNil)))) (gTp 2 (gsCons (gNm 2) (gsCons (gNm 3) (gsNil))))) [some (.fl (ns.map .int)), some (.ref 0), none, none, none, none, none, none, none, none, none] S0 = .nx [some (.fl (ns.map .int)), some (.ref 0), some u0, some w0, none, none, none, none, none, none, none] S0 := by simp [runF, startP, endOf, dRet, dRetN, dIf, dIfS, dB, dBin, dUn, dV, dC, sE, asB, dSeq, dSet, dPar, dPar3, dAsg, dExpr, dAnd, dOr, dNot, bAnd, bOr, bNot, dTru, dCB, dCons, dNil, dTup, dLst, dChain, dPass, fCmpI, fIsN, gTp, gsCons, gsNil, gNm, mkTup, dSl, dPart, dNoPart, lim, iLt, iLe, iGt, iGe]
  have s2 : (dAsg (dTup (dCons (dTup (dCons (dC (.str ("a" : Str))) (dCons (dTup (dCons (dV 3) (dNil))) (dCons (dTup (dNil)) (dCons (dV 2) (dNil)))))) (dCons (dTup (dCons (dC (.str ("b" : Str))) (dCons (dTup (dCons (dV 2) (dNil))) (dCons (dTup (dNil)) (dCons (dV 3) (dNil)))))) (dNil)))) (gTp 2 (gsCons (gNm 4) (gsCons (gNm 5) (gsNil))))) [some (.fl (ns.map .int)), some (.ref 0), some u0, some w0, none, none, none, none, none, none, none] S0 = .nx [some (.fl (ns.map .int)), some (.ref 0), some u0, some w0, some o1, some o2, none, none, none, none, none] S0 := by simp [runF, startP, endOf, dRet, dRetN, dIf, dIfS, dB, dBin, dUn, dV, dC, sE, asB, dSeq, dSet, dPar, dPar3, dAsg, dExpr, dAnd, dOr, dNot, bAnd, bOr, bNot, dTru, dCB, dCons, dNil, dTup, dLst, dChain, dPass, fCmpI, fIsN, gTp, gsCons, gsNil, gNm, mkTup, dSl, dPart, dNoPart, lim, iLt, iLe, iGt, iGe]
  have q1 : ∀ S, fEq true (.tup [.str "backs"]) (.tup [.str "backs"]) S = .ok (.bl false) S := fun S => by kernel_rfl
  have q2 : ∀ S, fEq true (.tup [.str "ins", .int 0]) (.tup [.str "ins", .int 0]) S = .ok (.bl false) S := fun S => by kernel_rfl
  have s3 : (dIfS (bOr (dB (dBin (fEq true) (dCB F_backing_shown (dCons (dV 4) (dCons (dV 5) (dNil)))) (dTup (dCons (dC (.str ("backs" : Str))) (dNil))))) (dB (dBin (fEq true) (dCB F_backing_shown (dCons (dV 5) (dCons (dV 4) (dNil)))) (dTup (dCons (dC (.str ("ins" : Str))) (dCons (dC (.int 0)) (dNil))))))) (dRet (dC (.bl false))) (dPass)) [some (.fl (ns.map .int)), some (.ref 0), some u0, some w0, some o1, some o2, none, none, none, none, none] S0 = .nx [some (.fl (ns.map .int)), some (.ref 0), some u0, some w0, some o1, some o2, none, none, none, none, none] S0 := by simp [runF, startP, endOf, dRet, dRetN, dIf, dIfS, dB, dBin, dUn, dV, dC, sE, asB, dSeq, dSet, dPar, dPar3, dAsg, dExpr, dAnd, dOr, dNot, bAnd, bOr, bNot, dTru, dCB, dCons, dNil, dTup, dLst, dChain, dPass, fCmpI, fIsN, gTp, gsCons, gsNil, gNm, mkTup, dSl, dPart, dNoPart, lim, iLt, iLe, iGt, iGe, t_1, t_2, q1, q2]
  show endOf (d_law [some (.fl (ns.map .int)), none, none, none, none, none, none, none, none, none, none] []) = _
  rw [dd]
  simp only [dSeq, s0, s1, s2, s3, f1, hl4]
  rfl
end G72
end
section
set_option Elab.async false
set_option linter.all false
set_option maxRecDepth 100000
open PySem PySem.W PyProof.Rows Mi
set_option maxHeartbeats 0
open_top hd72 for PySem.Challenge.rw_roundwarrant_k72_whole_backing_shown
abbrev G72.cs : List Lt := ([⟨287, 283, "_law_two_said.<locals>.<lambda>"⟩, ⟨294, 290, "law.<locals>.<lambda>"⟩] : List Lt)
abbrev G72.eA : List (Str × Addr) := [("RoundError", 24), ("NoHold", 37), ("NoPromise", 49)]
theorem G72.top_ok {w : World} {mg : Str → Option Value} {fa : Addr} {h : Heap} {p0 : Program} (KX : (hd72.heap_39 w.params).In h) (G : h.Ns mainGlobals mg) (XX : PySem.W.XL p0 [("FIFTY", PySem.W.WData.int 100000000000000000000000000000000000000000000000000)] mg h) (hT : ∀ c ∈ G72.cs, h.get? c.tab = some T0) (hmg : mg "law" = some (.ref fa))
    (math : ∀ ns : List Int, ns.length ≤ 63 → (∀ z ∈ ns, Builtin.Int.intBits z ≤ 1048576) → ∃ S1, G72.F_law [.fl (ns.map .int)] [] = .ok (.bl true) S1) :
    ∃ (cs : List Lt) (Ff : List PV → Sto → Res PV), (∀ c ∈ cs, h.get? c.tab = some T0) ∧ (∀ c ∈ cs, (hd72.heap_39 w.params).lookup c.tab = none) ∧ (∀ c ∈ cs, PySem.W.CodeHd h c.code c.tab) ∧
      (∀ base : Heap, (hd72.heap_39 w.params).In base → base.Ns mainGlobals mg → (∀ c ∈ cs, LamX.TabB base mg c.code c.tab) → FA ⟨PySem.Challenge.rw_roundwarrant_k72_whole_backing_shown.prog, w, (hd72.heap_39 w.params), mg, base, tabOf cs⟩ 24 fa Ff) ∧
      ∀ ns : List Int, ns.length ≤ 63 → (∀ z ∈ ns, Builtin.Int.intBits z ≤ 1048576) → ∃ S1, Ff [.fl (ns.map .int)] [] = .ok (.bl true) S1 := by
  refine ⟨G72.cs, G72.F_law, hT, fun c hc => ?_, fun c hc => ?_, fun base KB GB TB => ?_, math⟩
  · simp only [List.mem_cons, List.not_mem_nil, or_false] at hc
    rcases hc with rfl | rfl
    · first | kernel_rfl | rfl
    · first | kernel_rfl | rfl
  · simp only [List.mem_cons, List.not_mem_nil, or_false] at hc
    rcases hc with rfl | rfl
    · exact PySem.W.codeHd_of_K KX (by first | kernel_rfl | rfl)
    · exact PySem.W.codeHd_of_K KX (by first | kernel_rfl | rfl)
  · have B : Bi mg := by
      refine bi_mk KX G ?_
      first | kernel_rfl | rfl
    have ER : ErrAll (hd72.heap_39 w.params) mg G72.eA G72.isP 24 ([] : List Str) := errs_mk ([] : List Str) KX G (by first | kernel_rfl | rfl) (by decide +kernel)
    have e_RoundError : EC (hd72.heap_39 w.params) mg "RoundError" := ER.ec ("RoundError", 24) (by simp) (by decide +kernel)
    have e_NoHold : EC (hd72.heap_39 w.params) mg "NoHold" := ER.ec ("NoHold", 37) (by simp) (by decide +kernel)
    have e_NoPromise : EC (hd72.heap_39 w.params) mg "NoPromise" := ER.ec ("NoPromise", 49) (by simp) (by decide +kernel)
    have hCR : mg "RoundError" = some (.ref 24) := ER.at_.at_ ("RoundError", 24) (by simp)
    have h_FIFTY : ∃ t, mg "FIFTY" = some (.int G72.c_FIFTY t) := loose_mk XX (by simp)
    have h_MOST_TURNS : ∃ t, mg "MOST_TURNS" = some (.int G72.c_MOST_TURNS t) := by
      refine' int_mk KX G ?qq1
      (case qq1 => k_is)
    have h_MOST_NAME : ∃ t, mg "MOST_NAME" = some (.int G72.c_MOST_NAME t) := by
      refine' int_mk KX G ?qq2
      (case qq2 => k_is)
    have h_MOST_INS : ∃ t, mg "MOST_INS" = some (.int G72.c_MOST_INS t) := by
      refine' int_mk KX G ?qq3
      (case qq3 => k_is)
    have h_MOST_ROWS : ∃ t, mg "MOST_ROWS" = some (.int G72.c_MOST_ROWS t) := by
      refine' int_mk KX G ?qq4
      (case qq4 => k_is)
    have h_MOST_LENGTH : ∃ t, mg "MOST_LENGTH" = some (.int G72.c_MOST_LENGTH t) := by
      refine' int_mk KX G ?qq5
      (case qq5 => k_is)
    have h_BACKS : ∃ t, mg "BACKS" = some (.str G72.c_BACKS t) := by
      refine' str_mk KX G ?qq6
      (case qq6 => k_is)
    have h_UNLIKE_WORD : ∃ t, mg "UNLIKE_WORD" = some (.str G72.c_UNLIKE_WORD t) := by
      refine' str_mk KX G ?qq7
      (case qq7 => k_is)
    have h_INS : ∃ t, mg "INS" = some (.str G72.c_INS t) := by
      refine' str_mk KX G ?qq8
      (case qq8 => k_is)
    have h_ROWS : ∃ t, mg "ROWS" = some (.str G72.c_ROWS t) := by
      refine' str_mk KX G ?qq9
      (case qq9 => k_is)
    have h_OUT : ∃ t, mg "OUT" = some (.str G72.c_OUT t) := by
      refine' str_mk KX G ?qq10
      (case qq10 => k_is)
    have D_is_integer : DefOk ⟨PySem.Challenge.rw_roundwarrant_k72_whole_backing_shown.prog, w, (hd72.heap_39 w.params), mg, base, tabOf G72.cs⟩ "is_integer" G72.s_is_integer := by
      refine' def_mk KX G ?qq11 ?qq12 ?qq13 ?qq14
      (case qq11 => k_is)
      (case qq12 => k_is)
      (case qq13 => k_is)
      (case qq14 => k_is)
    have h_is_integer := G72.fc_is_integer (Z := ⟨PySem.Challenge.rw_roundwarrant_k72_whole_backing_shown.prog, w, (hd72.heap_39 w.params), mg, base, tabOf G72.cs⟩) B rfl D_is_integer
    have D_is_within : DefOk ⟨PySem.Challenge.rw_roundwarrant_k72_whole_backing_shown.prog, w, (hd72.heap_39 w.params), mg, base, tabOf G72.cs⟩ "is_within" G72.s_is_within := by
      refine' def_mk KX G ?qq15 ?qq16 ?qq17 ?qq18
      (case qq15 => k_is)
      (case qq16 => k_is)
      (case qq17 => k_is)
      (case qq18 => k_is)
    have h_is_within := G72.fc_is_within (Z := ⟨PySem.Challenge.rw_roundwarrant_k72_whole_backing_shown.prog, w, (hd72.heap_39 w.params), mg, base, tabOf G72.cs⟩) B rfl h_is_integer D_is_within
    have D_too_great : DefOk ⟨PySem.Challenge.rw_roundwarrant_k72_whole_backing_shown.prog, w, (hd72.heap_39 w.params), mg, base, tabOf G72.cs⟩ "too_great" G72.s_too_great := by
      refine' def_mk KX G ?qq19 ?qq20 ?qq21 ?qq22
      (case qq19 => k_is)
      (case qq20 => k_is)
      (case qq21 => k_is)
      (case qq22 => k_is)
    have h_too_great := G72.fc_too_great (Z := ⟨PySem.Challenge.rw_roundwarrant_k72_whole_backing_shown.prog, w, (hd72.heap_39 w.params), mg, base, tabOf G72.cs⟩) B rfl h_MOST_TURNS h_FIFTY D_too_great
    have D_common_divisor : DefOk ⟨PySem.Challenge.rw_roundwarrant_k72_whole_backing_shown.prog, w, (hd72.heap_39 w.params), mg, base, tabOf G72.cs⟩ "common_divisor" G72.s_common_divisor := by
      refine' def_mk KX G ?qq23 ?qq24 ?qq25 ?qq26
      (case qq23 => k_is)
      (case qq24 => k_is)
      (case qq25 => k_is)
      (case qq26 => k_is)
    have h_common_divisor := G72.fc_common_divisor (Z := ⟨PySem.Challenge.rw_roundwarrant_k72_whole_backing_shown.prog, w, (hd72.heap_39 w.params), mg, base, tabOf G72.cs⟩) B rfl D_common_divisor
    have D_is_fraction : DefOk ⟨PySem.Challenge.rw_roundwarrant_k72_whole_backing_shown.prog, w, (hd72.heap_39 w.params), mg, base, tabOf G72.cs⟩ "is_fraction" G72.s_is_fraction := by
      refine' def_mk KX G ?qq27 ?qq28 ?qq29 ?qq30
      (case qq27 => k_is)
      (case qq28 => k_is)
      (case qq29 => k_is)
      (case qq30 => k_is)
    have h_is_fraction := G72.fc_is_fraction (Z := ⟨PySem.Challenge.rw_roundwarrant_k72_whole_backing_shown.prog, w, (hd72.heap_39 w.params), mg, base, tabOf G72.cs⟩) B rfl h_is_integer h_too_great h_common_divisor D_is_fraction
    have D_raw_at_most : DefOk ⟨PySem.Challenge.rw_roundwarrant_k72_whole_backing_shown.prog, w, (hd72.heap_39 w.params), mg, base, tabOf G72.cs⟩ "raw_at_most" G72.s_raw_at_most := by
      refine' def_mk KX G ?qq31 ?qq32 ?qq33 ?qq34
      (case qq31 => k_is)
      (case qq32 => k_is)
      (case qq33 => k_is)
      (case qq34 => k_is)
    have h_raw_at_most := G72.fc_raw_at_most (Z := ⟨PySem.Challenge.rw_roundwarrant_k72_whole_backing_shown.prog, w, (hd72.heap_39 w.params), mg, base, tabOf G72.cs⟩) B rfl D_raw_at_most
    have D_is_hold : DefOk ⟨PySem.Challenge.rw_roundwarrant_k72_whole_backing_shown.prog, w, (hd72.heap_39 w.params), mg, base, tabOf G72.cs⟩ "is_hold" G72.s_is_hold := by
      refine' def_mk KX G ?qq35 ?qq36 ?qq37 ?qq38
      (case qq35 => k_is)
      (case qq36 => k_is)
      (case qq37 => k_is)
      (case qq38 => k_is)
    have h_is_hold := G72.fc_is_hold (Z := ⟨PySem.Challenge.rw_roundwarrant_k72_whole_backing_shown.prog, w, (hd72.heap_39 w.params), mg, base, tabOf G72.cs⟩) B rfl h_is_fraction h_raw_at_most D_is_hold
    have D_check_hold : DefOk ⟨PySem.Challenge.rw_roundwarrant_k72_whole_backing_shown.prog, w, (hd72.heap_39 w.params), mg, base, tabOf G72.cs⟩ "check_hold" G72.s_check_hold := by
      refine' def_mk KX G ?qq39 ?qq40 ?qq41 ?qq42
      (case qq39 => k_is)
      (case qq40 => k_is)
      (case qq41 => k_is)
      (case qq42 => k_is)
    have h_check_hold := G72.fc_check_hold (Z := ⟨PySem.Challenge.rw_roundwarrant_k72_whole_backing_shown.prog, w, (hd72.heap_39 w.params), mg, base, tabOf G72.cs⟩) B rfl e_NoHold h_is_hold D_check_hold
    have D_raw_covers : DefOk ⟨PySem.Challenge.rw_roundwarrant_k72_whole_backing_shown.prog, w, (hd72.heap_39 w.params), mg, base, tabOf G72.cs⟩ "raw_covers" G72.s_raw_covers := by
      refine' def_mk KX G ?qq43 ?qq44 ?qq45 ?qq46
      (case qq43 => k_is)
      (case qq44 => k_is)
      (case qq45 => k_is)
      (case qq46 => k_is)
    have h_raw_covers := G72.fc_raw_covers (Z := ⟨PySem.Challenge.rw_roundwarrant_k72_whole_backing_shown.prog, w, (hd72.heap_39 w.params), mg, base, tabOf G72.cs⟩) B rfl h_raw_at_most D_raw_covers
    have D_covers : DefOk ⟨PySem.Challenge.rw_roundwarrant_k72_whole_backing_shown.prog, w, (hd72.heap_39 w.params), mg, base, tabOf G72.cs⟩ "covers" G72.s_covers := by
      refine' def_mk KX G ?qq47 ?qq48 ?qq49 ?qq50
      (case qq47 => k_is)
      (case qq48 => k_is)
      (case qq49 => k_is)
      (case qq50 => k_is)
    have h_covers := G72.fc_covers (Z := ⟨PySem.Challenge.rw_roundwarrant_k72_whole_backing_shown.prog, w, (hd72.heap_39 w.params), mg, base, tabOf G72.cs⟩) B rfl h_check_hold h_raw_covers D_covers
    have D_is_name : DefOk ⟨PySem.Challenge.rw_roundwarrant_k72_whole_backing_shown.prog, w, (hd72.heap_39 w.params), mg, base, tabOf G72.cs⟩ "is_name" G72.s_is_name := by
      refine' def_mk KX G ?qq51 ?qq52 ?qq53 ?qq54
      (case qq51 => k_is)
      (case qq52 => k_is)
      (case qq53 => k_is)
      (case qq54 => k_is)
    have h_is_name := G72.fc_is_name (Z := ⟨PySem.Challenge.rw_roundwarrant_k72_whole_backing_shown.prog, w, (hd72.heap_39 w.params), mg, base, tabOf G72.cs⟩) B rfl h_MOST_NAME D_is_name
    have D_is_row : DefOk ⟨PySem.Challenge.rw_roundwarrant_k72_whole_backing_shown.prog, w, (hd72.heap_39 w.params), mg, base, tabOf G72.cs⟩ "is_row" G72.s_is_row := by
      refine' def_mk KX G ?qq55 ?qq56 ?qq57 ?qq58
      (case qq55 => k_is)
      (case qq56 => k_is)
      (case qq57 => k_is)
      (case qq58 => k_is)
    have h_is_row := G72.fc_is_row (Z := ⟨PySem.Challenge.rw_roundwarrant_k72_whole_backing_shown.prog, w, (hd72.heap_39 w.params), mg, base, tabOf G72.cs⟩) B rfl h_MOST_LENGTH h_is_within h_is_hold D_is_row
    have D_are_rows : DefOk ⟨PySem.Challenge.rw_roundwarrant_k72_whole_backing_shown.prog, w, (hd72.heap_39 w.params), mg, base, tabOf G72.cs⟩ "are_rows" G72.s_are_rows := by
      refine' def_mk KX G ?qq59 ?qq60 ?qq61 ?qq62
      (case qq59 => k_is)
      (case qq60 => k_is)
      (case qq61 => k_is)
      (case qq62 => k_is)
    have h_are_rows := G72.fc_are_rows (Z := ⟨PySem.Challenge.rw_roundwarrant_k72_whole_backing_shown.prog, w, (hd72.heap_39 w.params), mg, base, tabOf G72.cs⟩) B rfl h_MOST_ROWS h_is_row D_are_rows
    have D_is_promise : DefOk ⟨PySem.Challenge.rw_roundwarrant_k72_whole_backing_shown.prog, w, (hd72.heap_39 w.params), mg, base, tabOf G72.cs⟩ "is_promise" G72.s_is_promise := by
      refine' def_mk KX G ?qq63 ?qq64 ?qq65 ?qq66
      (case qq63 => k_is)
      (case qq64 => k_is)
      (case qq65 => k_is)
      (case qq66 => k_is)
    have h_is_promise := G72.fc_is_promise (Z := ⟨PySem.Challenge.rw_roundwarrant_k72_whole_backing_shown.prog, w, (hd72.heap_39 w.params), mg, base, tabOf G72.cs⟩) B rfl h_MOST_INS h_is_name h_is_hold h_are_rows D_is_promise
    have D_raw_backs : DefOk ⟨PySem.Challenge.rw_roundwarrant_k72_whole_backing_shown.prog, w, (hd72.heap_39 w.params), mg, base, tabOf G72.cs⟩ "raw_backs" G72.s_raw_backs := by
      refine' def_mk KX G ?qq67 ?qq68 ?qq69 ?qq70
      (case qq67 => k_is)
      (case qq68 => k_is)
      (case qq69 => k_is)
      (case qq70 => k_is)
    have h_raw_backs := G72.fc_raw_backs (Z := ⟨PySem.Challenge.rw_roundwarrant_k72_whole_backing_shown.prog, w, (hd72.heap_39 w.params), mg, base, tabOf G72.cs⟩) B rfl h_raw_covers D_raw_backs
    have D_check_promise : DefOk ⟨PySem.Challenge.rw_roundwarrant_k72_whole_backing_shown.prog, w, (hd72.heap_39 w.params), mg, base, tabOf G72.cs⟩ "check_promise" G72.s_check_promise := by
      refine' def_mk KX G ?qq71 ?qq72 ?qq73 ?qq74
      (case qq71 => k_is)
      (case qq72 => k_is)
      (case qq73 => k_is)
      (case qq74 => k_is)
    have h_check_promise := G72.fc_check_promise (Z := ⟨PySem.Challenge.rw_roundwarrant_k72_whole_backing_shown.prog, w, (hd72.heap_39 w.params), mg, base, tabOf G72.cs⟩) B rfl e_NoPromise h_is_promise D_check_promise
    have D_backs : DefOk ⟨PySem.Challenge.rw_roundwarrant_k72_whole_backing_shown.prog, w, (hd72.heap_39 w.params), mg, base, tabOf G72.cs⟩ "backs" G72.s_backs := by
      refine' def_mk KX G ?qq75 ?qq76 ?qq77 ?qq78
      (case qq75 => k_is)
      (case qq76 => k_is)
      (case qq77 => k_is)
      (case qq78 => k_is)
    have h_backs := G72.fc_backs (Z := ⟨PySem.Challenge.rw_roundwarrant_k72_whole_backing_shown.prog, w, (hd72.heap_39 w.params), mg, base, tabOf G72.cs⟩) B rfl h_check_promise h_raw_backs D_backs
    have D_are_alike : DefOk ⟨PySem.Challenge.rw_roundwarrant_k72_whole_backing_shown.prog, w, (hd72.heap_39 w.params), mg, base, tabOf G72.cs⟩ "are_alike" G72.s_are_alike := by
      refine' def_mk KX G ?qq79 ?qq80 ?qq81 ?qq82
      (case qq79 => k_is)
      (case qq80 => k_is)
      (case qq81 => k_is)
      (case qq82 => k_is)
    have h_are_alike := G72.fc_are_alike (Z := ⟨PySem.Challenge.rw_roundwarrant_k72_whole_backing_shown.prog, w, (hd72.heap_39 w.params), mg, base, tabOf G72.cs⟩) B rfl D_are_alike
    have D_check_both : DefOk ⟨PySem.Challenge.rw_roundwarrant_k72_whole_backing_shown.prog, w, (hd72.heap_39 w.params), mg, base, tabOf G72.cs⟩ "check_both" G72.s_check_both := by
      refine' def_mk KX G ?qq83 ?qq84 ?qq85 ?qq86
      (case qq83 => k_is)
      (case qq84 => k_is)
      (case qq85 => k_is)
      (case qq86 => k_is)
    have h_check_both := G72.fc_check_both (Z := ⟨PySem.Challenge.rw_roundwarrant_k72_whole_backing_shown.prog, w, (hd72.heap_39 w.params), mg, base, tabOf G72.cs⟩) B rfl h_check_promise D_check_both
    have D_raw_shown : DefOk ⟨PySem.Challenge.rw_roundwarrant_k72_whole_backing_shown.prog, w, (hd72.heap_39 w.params), mg, base, tabOf G72.cs⟩ "raw_shown" G72.s_raw_shown := by
      refine' def_mk KX G ?qq87 ?qq88 ?qq89 ?qq90
      (case qq87 => k_is)
      (case qq88 => k_is)
      (case qq89 => k_is)
      (case qq90 => k_is)
    have h_raw_shown := G72.fc_raw_shown (Z := ⟨PySem.Challenge.rw_roundwarrant_k72_whole_backing_shown.prog, w, (hd72.heap_39 w.params), mg, base, tabOf G72.cs⟩) B rfl h_UNLIKE_WORD h_INS h_ROWS h_BACKS h_OUT h_are_alike h_raw_covers D_raw_shown
    have D_backing_shown : DefOk ⟨PySem.Challenge.rw_roundwarrant_k72_whole_backing_shown.prog, w, (hd72.heap_39 w.params), mg, base, tabOf G72.cs⟩ "backing_shown" G72.s_backing_shown := by
      refine' def_mk KX G ?qq91 ?qq92 ?qq93 ?qq94
      (case qq91 => k_is)
      (case qq92 => k_is)
      (case qq93 => k_is)
      (case qq94 => k_is)
    have h_backing_shown := G72.fc_backing_shown (Z := ⟨PySem.Challenge.rw_roundwarrant_k72_whole_backing_shown.prog, w, (hd72.heap_39 w.params), mg, base, tabOf G72.cs⟩) B rfl h_check_both h_raw_shown D_backing_shown
    have D_is_backing_shown : DefOk ⟨PySem.Challenge.rw_roundwarrant_k72_whole_backing_shown.prog, w, (hd72.heap_39 w.params), mg, base, tabOf G72.cs⟩ "is_backing_shown" G72.s_is_backing_shown := by
      refine' def_mk KX G ?qq95 ?qq96 ?qq97 ?qq98
      (case qq95 => k_is)
      (case qq96 => k_is)
      (case qq97 => k_is)
      (case qq98 => k_is)
    have h_is_backing_shown := G72.fc_is_backing_shown (Z := ⟨PySem.Challenge.rw_roundwarrant_k72_whole_backing_shown.prog, w, (hd72.heap_39 w.params), mg, base, tabOf G72.cs⟩) B rfl h_check_both h_raw_shown D_is_backing_shown
    have D_law_hand_L : DefOk ⟨PySem.Challenge.rw_roundwarrant_k72_whole_backing_shown.prog, w, (hd72.heap_39 w.params), mg, base, tabOf G72.cs⟩ "_law_hand" G72.s_law_hand_L := by
      refine' def_mk KX G ?qq99 ?qq100 ?qq101 ?qq102
      (case qq99 => k_is)
      (case qq100 => k_is)
      (case qq101 => k_is)
      (case qq102 => k_is)
    have h_law_hand_L := G72.fc_law_hand_L (Z := ⟨PySem.Challenge.rw_roundwarrant_k72_whole_backing_shown.prog, w, (hd72.heap_39 w.params), mg, base, tabOf G72.cs⟩) B rfl D_law_hand_L
    have D_law_draw_L : DefOk ⟨PySem.Challenge.rw_roundwarrant_k72_whole_backing_shown.prog, w, (hd72.heap_39 w.params), mg, base, tabOf G72.cs⟩ "_law_draw" G72.s_law_draw_L := by
      refine' def_mk KX G ?qq103 ?qq104 ?qq105 ?qq106
      (case qq103 => k_is)
      (case qq104 => k_is)
      (case qq105 => k_is)
      (case qq106 => k_is)
    have h_law_draw_L := G72.fc_law_draw_L (Z := ⟨PySem.Challenge.rw_roundwarrant_k72_whole_backing_shown.prog, w, (hd72.heap_39 w.params), mg, base, tabOf G72.cs⟩) B rfl D_law_draw_L
    have D_law_any_L : DefOk ⟨PySem.Challenge.rw_roundwarrant_k72_whole_backing_shown.prog, w, (hd72.heap_39 w.params), mg, base, tabOf G72.cs⟩ "_law_any" G72.s_law_any_L := by
      refine' def_mk KX G ?qq107 ?qq108 ?qq109 ?qq110
      (case qq107 => k_is)
      (case qq108 => k_is)
      (case qq109 => k_is)
      (case qq110 => k_is)
    have h_law_any_L := G72.fc_law_any_L (Z := ⟨PySem.Challenge.rw_roundwarrant_k72_whole_backing_shown.prog, w, (hd72.heap_39 w.params), mg, base, tabOf G72.cs⟩) B rfl h_law_draw_L D_law_any_L
    have D_law_low_L : DefOk ⟨PySem.Challenge.rw_roundwarrant_k72_whole_backing_shown.prog, w, (hd72.heap_39 w.params), mg, base, tabOf G72.cs⟩ "_law_low" G72.s_law_low_L := by
      refine' def_mk KX G ?qq111 ?qq112 ?qq113 ?qq114
      (case qq111 => k_is)
      (case qq112 => k_is)
      (case qq113 => k_is)
      (case qq114 => k_is)
    have h_law_low_L := G72.fc_law_low_L (Z := ⟨PySem.Challenge.rw_roundwarrant_k72_whole_backing_shown.prog, w, (hd72.heap_39 w.params), mg, base, tabOf G72.cs⟩) B rfl D_law_low_L
    have D_law_plus_L : DefOk ⟨PySem.Challenge.rw_roundwarrant_k72_whole_backing_shown.prog, w, (hd72.heap_39 w.params), mg, base, tabOf G72.cs⟩ "_law_plus" G72.s_law_plus_L := by
      refine' def_mk KX G ?qq115 ?qq116 ?qq117 ?qq118
      (case qq115 => k_is)
      (case qq116 => k_is)
      (case qq117 => k_is)
      (case qq118 => k_is)
    have h_law_plus_L := G72.fc_law_plus_L (Z := ⟨PySem.Challenge.rw_roundwarrant_k72_whole_backing_shown.prog, w, (hd72.heap_39 w.params), mg, base, tabOf G72.cs⟩) B rfl h_law_low_L D_law_plus_L
    have D_law_hold_L : DefOk ⟨PySem.Challenge.rw_roundwarrant_k72_whole_backing_shown.prog, w, (hd72.heap_39 w.params), mg, base, tabOf G72.cs⟩ "_law_hold" G72.s_law_hold_L := by
      refine' def_mk KX G ?qq119 ?qq120 ?qq121 ?qq122
      (case qq119 => k_is)
      (case qq120 => k_is)
      (case qq121 => k_is)
      (case qq122 => k_is)
    have h_law_hold_L := G72.fc_law_hold_L (Z := ⟨PySem.Challenge.rw_roundwarrant_k72_whole_backing_shown.prog, w, (hd72.heap_39 w.params), mg, base, tabOf G72.cs⟩) B rfl h_law_low_L h_law_draw_L h_law_plus_L D_law_hold_L
    have D_law_promise_L : DefOk ⟨PySem.Challenge.rw_roundwarrant_k72_whole_backing_shown.prog, w, (hd72.heap_39 w.params), mg, base, tabOf G72.cs⟩ "_law_promise" G72.s_law_promise_L := by
      refine' def_mk KX G ?qq123 ?qq124 ?qq125 ?qq126
      (case qq123 => k_is)
      (case qq124 => k_is)
      (case qq125 => k_is)
      (case qq126 => k_is)
    have h_law_promise_L := G72.fc_law_promise_L (Z := ⟨PySem.Challenge.rw_roundwarrant_k72_whole_backing_shown.prog, w, (hd72.heap_39 w.params), mg, base, tabOf G72.cs⟩) B rfl h_law_draw_L h_law_hold_L h_law_any_L D_law_promise_L
    have D_law_moved_L : DefOk ⟨PySem.Challenge.rw_roundwarrant_k72_whole_backing_shown.prog, w, (hd72.heap_39 w.params), mg, base, tabOf G72.cs⟩ "_law_moved" G72.s_law_moved_L := by
      refine' def_mk KX G ?qq127 ?qq128 ?qq129 ?qq130
      (case qq127 => k_is)
      (case qq128 => k_is)
      (case qq129 => k_is)
      (case qq130 => k_is)
    have h_law_moved_L := G72.fc_law_moved_L (Z := ⟨PySem.Challenge.rw_roundwarrant_k72_whole_backing_shown.prog, w, (hd72.heap_39 w.params), mg, base, tabOf G72.cs⟩) B rfl h_law_draw_L h_law_plus_L h_law_low_L h_law_any_L D_law_moved_L
    have D_law_near_L : DefOk ⟨PySem.Challenge.rw_roundwarrant_k72_whole_backing_shown.prog, w, (hd72.heap_39 w.params), mg, base, tabOf G72.cs⟩ "_law_near" G72.s_law_near_L := by
      refine' def_mk KX G ?qq131 ?qq132 ?qq133 ?qq134
      (case qq131 => k_is)
      (case qq132 => k_is)
      (case qq133 => k_is)
      (case qq134 => k_is)
    have h_law_near_L := G72.fc_law_near_L (Z := ⟨PySem.Challenge.rw_roundwarrant_k72_whole_backing_shown.prog, w, (hd72.heap_39 w.params), mg, base, tabOf G72.cs⟩) B rfl h_law_draw_L h_law_moved_L h_law_any_L h_law_hold_L D_law_near_L
    have D_law_covers_L : DefOk ⟨PySem.Challenge.rw_roundwarrant_k72_whole_backing_shown.prog, w, (hd72.heap_39 w.params), mg, base, tabOf G72.cs⟩ "_law_covers" G72.s_law_covers_L := by
      refine' def_mk KX G ?qq135 ?qq136 ?qq137 ?qq138
      (case qq135 => k_is)
      (case qq136 => k_is)
      (case qq137 => k_is)
      (case qq138 => k_is)
    have h_law_covers_L := G72.fc_law_covers_L (Z := ⟨PySem.Challenge.rw_roundwarrant_k72_whole_backing_shown.prog, w, (hd72.heap_39 w.params), mg, base, tabOf G72.cs⟩) B rfl D_law_covers_L
    have D_law_shown_L : DefOk ⟨PySem.Challenge.rw_roundwarrant_k72_whole_backing_shown.prog, w, (hd72.heap_39 w.params), mg, base, tabOf G72.cs⟩ "_law_shown" G72.s_law_shown_L := by
      refine' def_mk KX G ?qq139 ?qq140 ?qq141 ?qq142
      (case qq139 => k_is)
      (case qq140 => k_is)
      (case qq141 => k_is)
      (case qq142 => k_is)
    have h_law_shown_L := G72.fc_law_shown_L (Z := ⟨PySem.Challenge.rw_roundwarrant_k72_whole_backing_shown.prog, w, (hd72.heap_39 w.params), mg, base, tabOf G72.cs⟩) B rfl h_law_covers_L D_law_shown_L
    have D_law_pair_right_L : DefOk ⟨PySem.Challenge.rw_roundwarrant_k72_whole_backing_shown.prog, w, (hd72.heap_39 w.params), mg, base, tabOf G72.cs⟩ "_law_pair_right" G72.s_law_pair_right_L := by
      refine' def_mk KX G ?qq143 ?qq144 ?qq145 ?qq146
      (case qq143 => k_is)
      (case qq144 => k_is)
      (case qq145 => k_is)
      (case qq146 => k_is)
    have h_law_pair_right_L := G72.fc_law_pair_right_L (Z := ⟨PySem.Challenge.rw_roundwarrant_k72_whole_backing_shown.prog, w, (hd72.heap_39 w.params), mg, base, tabOf G72.cs⟩) B rfl h_law_shown_L h_backing_shown h_backs h_is_backing_shown h_covers h_law_covers_L h_is_hold h_is_promise D_law_pair_right_L
    have D_law_leads_right_L : DefOk ⟨PySem.Challenge.rw_roundwarrant_k72_whole_backing_shown.prog, w, (hd72.heap_39 w.params), mg, base, tabOf G72.cs⟩ "_law_leads_right" G72.s_law_leads_right_L := by
      refine' def_mk KX G ?qq147 ?qq148 ?qq149 ?qq150
      (case qq147 => k_is)
      (case qq148 => k_is)
      (case qq149 => k_is)
      (case qq150 => k_is)
    have h_law_leads_right_L := G72.fc_law_leads_right_L (Z := ⟨PySem.Challenge.rw_roundwarrant_k72_whole_backing_shown.prog, w, (hd72.heap_39 w.params), mg, base, tabOf G72.cs⟩) B rfl h_backs h_backing_shown D_law_leads_right_L
    have D_law_said_L : DefOk ⟨PySem.Challenge.rw_roundwarrant_k72_whole_backing_shown.prog, w, (hd72.heap_39 w.params), mg, base, tabOf G72.cs⟩ "_law_said" G72.s_law_said_L := by
      refine' def_mk KX G ?qq151 ?qq152 ?qq153 ?qq154
      (case qq151 => k_is)
      (case qq152 => k_is)
      (case qq153 => k_is)
      (case qq154 => k_is)
    have g_law_said_L := G72.fl_law_said_L (Z := ⟨PySem.Challenge.rw_roundwarrant_k72_whole_backing_shown.prog, w, (hd72.heap_39 w.params), mg, base, tabOf G72.cs⟩) B rfl e_NoPromise hCR ER.cat ER.isE D_law_said_L
    have D_law_two_said_L : DefOkC ⟨PySem.Challenge.rw_roundwarrant_k72_whole_backing_shown.prog, w, (hd72.heap_39 w.params), mg, base, tabOf G72.cs⟩ "_law_two_said" G72.s_law_two_said_L 287 := by
      refine' defC_mk KX G ?qq155 ?qq156 ?qq157 ?qq158
      (case qq155 => k_is)
      (case qq156 => k_is)
      (case qq157 => k_is)
      (case qq158 => k_is)
    have h_law_two_said_L := G72.fc_law_two_said_L (Z := ⟨PySem.Challenge.rw_roundwarrant_k72_whole_backing_shown.prog, w, (hd72.heap_39 w.params), mg, base, tabOf G72.cs⟩) B rfl h_backing_shown h_backs g_law_said_L (TB ⟨287, 283, "_law_two_said.<locals>.<lambda>"⟩ (by simp)) (by simp) (by intro p hp he; simp at hp; rcases hp with rfl | rfl <;> first | rfl | (simp at he)) D_law_two_said_L
    have D_law : DefOkC ⟨PySem.Challenge.rw_roundwarrant_k72_whole_backing_shown.prog, w, (hd72.heap_39 w.params), mg, base, tabOf G72.cs⟩ "law" G72.s_law 294 := by
      refine' defC_mk KX G ?qq159 ?qq160 ?qq161 ?qq162
      (case qq159 => k_is)
      (case qq160 => k_is)
      (case qq161 => k_is)
      (case qq162 => k_is)
    have h_law := G72.fc_law (Z := ⟨PySem.Challenge.rw_roundwarrant_k72_whole_backing_shown.prog, w, (hd72.heap_39 w.params), mg, base, tabOf G72.cs⟩) B rfl h_law_hand_L h_backing_shown h_law_promise_L h_law_any_L h_law_near_L h_law_pair_right_L h_law_leads_right_L h_backs h_law_two_said_L h_is_backing_shown g_law_said_L (TB ⟨294, 290, "law.<locals>.<lambda>"⟩ (by simp)) (by simp) (by intro p hp he; simp at hp; rcases hp with rfl | rfl <;> first | rfl | (simp at he)) D_law
    obtain ⟨f1, m1, _, fa1⟩ := h_law.ex
    have ef : f1 = fa := by
      have z := m1.symm.trans hmg
      cases z
      rfl
    rw [← ef]
    exact fa1
theorem PySem.Challenge.cw_roundwarrant_k72_whole_backing_shown_holds : PySem.Challenge.rw_roundwarrant_k72_whole_backing_shown.Holds :=
  hd72 (by
    refine Mi.walk_end (l := PySem.Challenge.rw_roundwarrant_k72_whole_backing_shown) (n := 63) (k := 24) rfl (by decide) rfl ⟨rfl, by decide, by decide⟩ (fun w h Y => PySem.W.km_in_of Y) ?F
    case F =>
      intro w mg fa h Y XX KX G hmg
      exact G72.top_ok KX G XX (fun c hc => PySem.W.km_tabs_of Y c.tab (by simp at hc; rcases hc with rfl | rfl <;> simp)) hmg G72.law_true)
end
