import PyProof.Rows.All
import Wide.All
import OpenK.AllK
import Wide.FinOn
import HandS.ForMost
import HandS.ForExc
import HandS.EndTab
import HandS.Wide
import HandS.WideBits
import HandS.TupAny
import HandS.Style
import HandS.IsInst
import PyProof.CallFns
import HandS.Deep
import HandS.Zip
import KE.GoesMore
import HandS.ExcIs
import HandS.Small
import KE.DataFind
import KE.KExcIs
import HandS.Lambda
import KE.KNestM
import Wide.Loose
import KE.KDflt
import HandS.ExcInit
import HandS.Text
import HandS.Codes
import HandS.Conv
import HandS.ExcField
import PyProof.ListStr
import PyProof.StrOps2
import KE.IntTextLaws
import PyProof.Rows.ReprOcc
import PySem.Challenge.RW_roundwarrant_k58_whole_texts_of_figures
section
set_option Elab.async false
set_option linter.all false
set_option maxRecDepth 100000
set_option maxHeartbeats 2000000
/-! Mi: values as trees, lists that change in a store, and what it means that the machine's state stands for them. -/
namespace Mi
open PySem PySem.Spec PyProof.Rows L2

/-- a value: trees; nl, nd: a list, a dict that nobody changes; ref: a list that is changed, by its number; glb: a def or class of the module -/
inductive PV where
  | non | bl (b : Bool) | int (i : Int) | str (s : Str)
  | tup (xs : List PV) | ct (xs : List PV) | nl (xs : List PV) | fl (xs : List PV) | nd (ks : List Key) (vs : List PV)
  | ref (n : Nat) | ty (n : String) | glb (x : Str) | err | lam
  deriving Inhabited
/-- what stands in the store -/
inductive SO where
  | lst (xs : List PV)
  | dT (ks : List (List Int))
  | fz (ks : List (List Int))
abbrev Sto := List SO
abbrev EnP := List (Option PV)
/-- an answer of an expression: a value, an error of a class with its fields, or nothing is said -/
inductive Res (α : Type) where
  | ok (a : α) (S : Sto)
  | exc (c : Str) (fs : List (Str × PV)) (S : Sto)
  | bad
/-- an answer of a block -/
inductive SR where
  | nx (ρ : EnP) (S : Sto)
  | rt (v : PV) (S : Sto)
  | bk (ρ : EnP) (S : Sto)
  | ct (ρ : EnP) (S : Sto)
  | exc (c : Str) (fs : List (Str × PV)) (ρ : EnP) (S : Sto)
  | bad
def Res.bind {α β : Type} (r : Res α) (f : α → Sto → Res β) : Res β :=
  match r with
  | .ok a S => f a S
  | .exc c fs S => .exc c fs S
  | .bad => .bad
@[simp] theorem Res.bind_ok {α β : Type} (a : α) (S : Sto) (f : α → Sto → Res β) : (Res.ok a S).bind f = f a S := rfl
@[simp] theorem Res.bind_exc {α β : Type} (c : Str) (fs : List (Str × PV)) (S : Sto) (f : α → Sto → Res β) : (Res.exc c fs S).bind f = .exc c fs S := rfl
@[simp] theorem Res.bind_bad {α β : Type} (f : α → Sto → Res β) : (Res.bad : Res α).bind f = .bad := rfl

/-- where the store's lists stand, and the lists that are being made (by comprehensions that run) -/
structure Mm where
  ix : List Addr
  ex : List Addr
abbrev Mm.no (m : Mm) (a : Addr) : Prop := a ∉ m.ix ∧ a ∉ m.ex
/-- no table of code objects -/
abbrev NT (o : HO) : Prop := ∀ ps, o ≠ .tbl ps
/-- nothing stands there, but a table perhaps -/
abbrev Nil (H : Hp) (a : Addr) : Prop := ∀ o, H a = some o → ¬ NT o
abbrev H0 : Hp := fun _ => none
/-- what trees stand on -/
structure Emb (m : Mm) (H : Hp) (m' : Mm) (H' : Hp) : Prop where
  get : ∀ (n : Nat) (a : Addr), m.ix[n]? = some a → m'.ix[n]? = some a
  keep : ∀ a o, m.no a → H a = some o → NT o → m'.no a ∧ H' a = some o
  tup : ∀ a xs, H a = some (.tup xs) → H' a = some (.tup xs)
  frz : ∀ a o u, H a = some (.frz o u) → H' a = some (.frz o u)
/-- .. but for a dict that was read over and is free again -/
structure Emw (m : Mm) (H : Hp) (m' : Mm) (H' : Hp) : Prop where
  get : ∀ (n : Nat) (a : Addr), m.ix[n]? = some a → m'.ix[n]? = some a
  keep : ∀ a o, m.no a → H a = some o → NT o → (∀ k, o ≠ .dT k) → m'.no a ∧ H' a = some o
  tup : ∀ a xs, H a = some (.tup xs) → H' a = some (.tup xs)
  frz : ∀ a o u, H a = some (.frz o u) → (∀ k, u ≠ .dT k) → H' a = some (.frz o u)
theorem Emb.emw {m m' : Mm} {H H' : Hp} (s : Emb m H m' H') : Emw m H m' H' := ⟨s.get, fun a o h e n _ => s.keep a o h e n, s.tup, fun a o u e _ => s.frz a o u e⟩
/-- a lambda that a def has got: where it stands, and what must stay while it may be called -/
structure LmI where
  f : Addr
  Φ : Mm → Hp → Prop
  st : ∀ m H m' H', Emw m H m' H' → Φ m H → Φ m' H'
structure Tb where
  tabs : List (Addr × Str)
  lm : Option LmI
  /-- where the fields of the error at hand stand -/
  ed : Option (Addr × List (Str × V))
/-- the module's facts: its written part, what its names hold, the tables of lambdas; the lambda at hand; the error at hand -/
structure Gm where
  K : PySem.W.Frag
  mg : Str → Option Value
  T : Tb
  er : Option Value
abbrev Gm.bare (g : Gm) : Gm := ⟨g.K, g.mg, ⟨g.T.tabs, none, g.T.ed⟩, none⟩
abbrev Bare (g : Gm) : Prop := g.bare = g

mutual
/-- the machine's value v stands for a tree -/
def Rep (g : Gm) (m : Mm) (H : Hp) : PV → V → Prop
  | .non, v => v = .non
  | .bl b, v => v = .bl b
  | .int i, v => v = .int i
  | .str s, v => v = .str s
  | .tup xs, v => ∃ a vs, v = .ref a ∧ SqT g.K H a vs ∧ RepL g m H xs vs
  | .ct xs, v => ∃ a vs, v = .ref a ∧ SqT g.K H0 a vs ∧ RepL g m H xs vs
  | .nl xs, v => ∃ a vs, v = .ref a ∧ m.no a ∧ H a = some (HO.lst vs) ∧ RepL g m H xs vs
  | .fl xs, v => ∃ a vs, v = .ref a ∧ ((∃ o, H a = some (HO.frz o (HO.lst vs))) ∨ SqL g.K H0 a vs) ∧ RepL g m H xs vs
  | .nd ks xs, v => ∃ a vs, v = .ref a ∧ m.no a ∧ H a = some (.dK (ks.zip vs)) ∧ ks.length = vs.length ∧ RepL g m H xs vs
  | .ref n, v => ∃ a, m.ix[n]? = some a ∧ v = .ref a
  | .ty n, v => v = .ty n
  | .glb x, v => ∃ a, g.mg x = some (.ref a) ∧ v = .ref a
  | .err, v => ∃ a, g.er = some (.ref a) ∧ v = .ref a ∧ ∀ d ws, g.T.ed = some (d, ws) → m.no d ∧ H d = some (.xd ws)
  | .lam, v => ∃ i, g.T.lm = some i ∧ v = .ref i.f ∧ i.Φ m H
def RepL (g : Gm) (m : Mm) (H : Hp) : List PV → List V → Prop
  | [], vs => vs = []
  | x :: xs, vs => ∃ v ws, vs = v :: ws ∧ Rep g m H x v ∧ RepL g m H xs ws
end

/-- what stands behind a stretch of the run: more addresses, new ones; what is no list of the store stays -/
structure Step (m : Mm) (H : Hp) (m' : Mm) (H' : Hp) : Prop where
  pre : ∃ l, m'.ix = m.ix ++ l
  exo : ∀ a ∈ m.ex, a ∈ m'.ex
  exn : ∀ a ∈ m'.ex, a ∉ m.ex → a ∉ m.ix → Nil H a
  new : ∀ a ∈ m'.ix, a ∉ m.ix → Nil H a
  keep : ∀ a o, a ∉ m.ix → H a = some o → NT o → H' a = some o
  tup : ∀ a xs, H a = some (.tup xs) → H' a = some (.tup xs)
  frz : ∀ a o u, H a = some (.frz o u) → H' a = some (.frz o u)
theorem Step.refl (m : Mm) (H : Hp) : Step m H m H := ⟨⟨[], by simp⟩, fun _ h => h, fun a h1 h2 => absurd h1 h2, fun a h1 h2 => absurd h1 h2, fun _ _ _ e _ => e, fun _ _ e => e, fun _ _ _ e => e⟩
theorem Step.old {m m' : Mm} {H H' : Hp} (s : Step m H m' H') {x : Addr} {o : HO} (h : x ∉ m.ix) (e : H x = some o) (n : NT o) : x ∉ m'.ix := fun q => s.new x q h o e n
theorem Step.no {m m' : Mm} {H H' : Hp} (s : Step m H m' H') {x : Addr} {o : HO} (h : m.no x) (e : H x = some o) (n : NT o) : m'.no x := ⟨s.old h.1 e n, fun q => s.exn x q h.2 h.1 o e n⟩
theorem Step.trans {m m1 m2 : Mm} {H H1 H2 : Hp} (a : Step m H m1 H1) (b : Step m1 H1 m2 H2) : Step m H m2 H2 := by
  refine ⟨?_, fun x h => b.exo x (a.exo x h), fun x h1 h2 h3 o e n => ?_, fun x h1 h2 o e n => ?_, fun x o h e n => b.keep x o (a.old h e n) (a.keep x o h e n) n, fun x xs e => b.tup _ _ (a.tup _ _ e), fun x o u e => b.frz _ _ _ (a.frz _ _ _ e)⟩
  · obtain ⟨l, e⟩ := a.pre
    obtain ⟨l', e'⟩ := b.pre
    exact ⟨l ++ l', by rw [e', e, List.append_assoc]⟩
  · by_cases q : x ∈ m1.ex
    · exact a.exn x q h2 h3 o e n
    · by_cases q2 : x ∈ m1.ix
      · exact a.new x q2 h3 o e n
      · exact b.exn x h1 q q2 o (a.keep x o h3 e n) n
  · by_cases q : x ∈ m1.ix
    · exact a.new x q h2 o e n
    · exact b.new x h1 q o (a.keep x o h2 e n) n
theorem Step.get {m m' : Mm} {H H' : Hp} (s : Step m H m' H') {n : Nat} {a : Addr} (h : m.ix[n]? = some a) : m'.ix[n]? = some a := by
  obtain ⟨l, e⟩ := s.pre
  have hl := (List.getElem?_eq_some_iff.mp h).1
  rw [e, List.getElem?_append_left hl]
  exact h
theorem Step.emb {m m' : Mm} {H H' : Hp} (s : Step m H m' H') : Emb m H m' H' := ⟨fun _ _ h => s.get h, fun a o h e n => ⟨s.no h e n, s.keep a o h.1 e n⟩, s.tup, s.frz⟩
theorem nt_lst {vs : List V} : NT (.lst vs) := fun ps q => by cases q
theorem nt_dK {vs : List (Key × V)} : NT (.dK vs) := fun ps q => by cases q

theorem rd_frz {H H' : Hp} {a : Addr} {u : HO} (h1 : H a = some u → H' a = some u) (h2 : ∀ o, H a = some (.frz o u) → H' a = some (.frz o u)) (r : Rd H a u) : Rd H' a u := by
  rcases r with r | ⟨o, r⟩
  · exact .inl (h1 r)
  · exact .inr ⟨o, h2 o r⟩
theorem sqT_emw {g : Gm} {m m' : Mm} {H H' : Hp} {a : Addr} {vs : List V} (s : Emw m H m' H') (h : SqT g.K H a vs) : SqT g.K H' a vs := by
  rcases h with h | h
  · exact .inl (rd_frz (s.tup a vs) (fun o e => s.frz a o _ e (fun k z => by cases z)) h)
  · exact .inr h
theorem sqT_emb {g : Gm} {m m' : Mm} {H H' : Hp} {a : Addr} {vs : List V} (s : Emb m H m' H') (h : SqT g.K H a vs) : SqT g.K H' a vs := sqT_emw s.emw h
theorem sqT_step {g : Gm} {m m' : Mm} {H H' : Hp} {a : Addr} {vs : List V} (s : Step m H m' H') (h : SqT g.K H a vs) : SqT g.K H' a vs := sqT_emb s.emb h
mutual
theorem Rep.emw {g : Gm} {m m' : Mm} {H H' : Hp} (s : Emw m H m' H') : ∀ (x : PV) (v : V), Rep g m H x v → Rep g m' H' x v
  | .non, _, h => h
  | .bl _, _, h => h
  | .int _, _, h => h
  | .str _, _, h => h
  | .tup xs, _, h => by
    unfold Rep at h ⊢
    obtain ⟨a, vs, e, h1, h2⟩ := h
    exact ⟨a, vs, e, sqT_emw s h1, RepL.emw s xs vs h2⟩
  | .ct xs, _, h => by
    unfold Rep at h ⊢
    obtain ⟨a, vs, e, h1, h2⟩ := h
    exact ⟨a, vs, e, h1, RepL.emw s xs vs h2⟩
  | .nl xs, _, h => by
    unfold Rep at h ⊢
    obtain ⟨a, vs, e, h0, h1, h2⟩ := h
    obtain ⟨k1, k2⟩ := s.keep a _ h0 h1 nt_lst (fun k z => by cases z)
    exact ⟨a, vs, e, k1, k2, RepL.emw s xs vs h2⟩
  | .fl xs, _, h => by
    unfold Rep at h ⊢
    obtain ⟨a, vs, e, h1, h2⟩ := h
    refine ⟨a, vs, e, ?_, RepL.emw s xs vs h2⟩
    rcases h1 with ⟨o, h1⟩ | h1
    · exact .inl ⟨o, s.frz a o _ h1 (fun k z => by cases z)⟩
    · exact .inr h1
  | .nd ks xs, _, h => by
    unfold Rep at h ⊢
    obtain ⟨a, vs, e, h0, h1, h3, h2⟩ := h
    obtain ⟨k1, k2⟩ := s.keep a _ h0 h1 nt_dK (fun k z => by cases z)
    exact ⟨a, vs, e, k1, k2, h3, RepL.emw s xs vs h2⟩
  | .ref n, _, h => by
    unfold Rep at h ⊢
    obtain ⟨a, h1, h2⟩ := h
    exact ⟨a, s.get n a h1, h2⟩
  | .ty _, _, h => h
  | .glb _, _, h => by
    unfold Rep at h ⊢
    exact h
  | .err, _, h => by
    unfold Rep at h ⊢
    obtain ⟨a, h1, h2, h3⟩ := h
    refine ⟨a, h1, h2, fun d ws e => ?_⟩
    obtain ⟨n, q⟩ := h3 d ws e
    obtain ⟨k1, k2⟩ := s.keep d _ n q (fun ps z => by cases z) (fun k z => by cases z)
    exact ⟨k1, k2⟩
  | .lam, _, h => by
    unfold Rep at h ⊢
    obtain ⟨i, h1, h2, h3⟩ := h
    exact ⟨i, h1, h2, i.st _ _ _ _ s h3⟩
theorem RepL.emw {g : Gm} {m m' : Mm} {H H' : Hp} (s : Emw m H m' H') : ∀ (xs : List PV) (vs : List V), RepL g m H xs vs → RepL g m' H' xs vs
  | [], _, h => h
  | x :: xs, _, h => by
    unfold RepL at h ⊢
    obtain ⟨v, ws, e, h1, h2⟩ := h
    exact ⟨v, ws, e, Rep.emw s x v h1, RepL.emw s xs ws h2⟩
end
theorem Rep.emb {g : Gm} {m m' : Mm} {H H' : Hp} (s : Emb m H m' H') (x : PV) (v : V) (h : Rep g m H x v) : Rep g m' H' x v := Rep.emw s.emw x v h
theorem RepL.emb {g : Gm} {m m' : Mm} {H H' : Hp} (s : Emb m H m' H') (xs : List PV) (vs : List V) (h : RepL g m H xs vs) : RepL g m' H' xs vs := RepL.emw s.emw xs vs h
theorem Rep.step {g : Gm} {m m' : Mm} {H H' : Hp} (s : Step m H m' H') (x : PV) (v : V) (h : Rep g m H x v) : Rep g m' H' x v := Rep.emb s.emb x v h
theorem RepL.step {g : Gm} {m m' : Mm} {H H' : Hp} (s : Step m H m' H') (xs : List PV) (vs : List V) (h : RepL g m H xs vs) : RepL g m' H' xs vs := RepL.emb s.emb xs vs h
mutual
theorem Rep.up {g : Gm} {m : Mm} {H : Hp} : ∀ (x : PV) (v : V), Rep g.bare m H x v → Rep g m H x v
  | .non, _, h => h
  | .bl _, _, h => h
  | .int _, _, h => h
  | .str _, _, h => h
  | .tup xs, _, h => by
    unfold Rep at h ⊢
    obtain ⟨a, vs, e, h1, h2⟩ := h
    exact ⟨a, vs, e, h1, RepL.up xs vs h2⟩
  | .ct xs, _, h => by
    unfold Rep at h ⊢
    obtain ⟨a, vs, e, h1, h2⟩ := h
    exact ⟨a, vs, e, h1, RepL.up xs vs h2⟩
  | .nl xs, _, h => by
    unfold Rep at h ⊢
    obtain ⟨a, vs, e, h0, h1, h2⟩ := h
    exact ⟨a, vs, e, h0, h1, RepL.up xs vs h2⟩
  | .fl xs, _, h => by
    unfold Rep at h ⊢
    obtain ⟨a, vs, e, h1, h2⟩ := h
    exact ⟨a, vs, e, h1, RepL.up xs vs h2⟩
  | .nd ks xs, _, h => by
    unfold Rep at h ⊢
    obtain ⟨a, vs, e, h0, h1, h3, h2⟩ := h
    exact ⟨a, vs, e, h0, h1, h3, RepL.up xs vs h2⟩
  | .ref n, _, h => by
    unfold Rep at h ⊢
    exact h
  | .ty _, _, h => h
  | .glb _, _, h => by
    unfold Rep at h ⊢
    exact h
  | .err, _, h => by
    unfold Rep at h
    obtain ⟨a, h1, _⟩ := h
    cases h1
  | .lam, _, h => by
    unfold Rep at h
    obtain ⟨i, h1, _⟩ := h
    cases h1
theorem RepL.up {g : Gm} {m : Mm} {H : Hp} : ∀ (xs : List PV) (vs : List V), RepL g.bare m H xs vs → RepL g m H xs vs
  | [], _, h => h
  | x :: xs, _, h => by
    unfold RepL at h ⊢
    obtain ⟨v, ws, e, h1, h2⟩ := h
    exact ⟨v, ws, e, Rep.up x v h1, RepL.up xs ws h2⟩
end
theorem RepL.length {g : Gm} {m : Mm} {H : Hp} : ∀ {xs : List PV} {vs : List V}, RepL g m H xs vs → xs.length = vs.length
  | [], _, h => by unfold RepL at h; subst h; rfl
  | x :: xs, _, h => by
    unfold RepL at h
    obtain ⟨v, ws, rfl, _, h2⟩ := h
    rw [List.length_cons, List.length_cons, RepL.length h2]
theorem RepL.nil {g : Gm} {m : Mm} {H : Hp} : RepL g m H [] [] := rfl
theorem RepL.cons {g : Gm} {m : Mm} {H : Hp} {x : PV} {xs : List PV} {v : V} {vs : List V} (h : Rep g m H x v) (t : RepL g m H xs vs) : RepL g m H (x :: xs) (v :: vs) := by
  unfold RepL
  exact ⟨v, vs, rfl, h, t⟩
theorem RepL.get {g : Gm} {m : Mm} {H : Hp} : ∀ {xs : List PV} {vs : List V} {i : Nat} {x : PV}, RepL g m H xs vs → xs[i]? = some x → ∃ v, vs[i]? = some v ∧ Rep g m H x v
  | [], _, _, _, _, e => by simp at e
  | y :: ys, _, 0, x, h, e => by
    unfold RepL at h
    obtain ⟨v, ws, rfl, h1, _⟩ := h
    simp at e; subst e
    exact ⟨v, rfl, h1⟩
  | y :: ys, _, i + 1, x, h, e => by
    unfold RepL at h
    obtain ⟨v, ws, rfl, _, h2⟩ := h
    obtain ⟨w, e1, e2⟩ := RepL.get (i := i) (x := x) h2 (by simpa using e)
    exact ⟨w, by simpa using e1, e2⟩
theorem RepL.append {g : Gm} {m : Mm} {H : Hp} : ∀ {xs ys : List PV} {vs ws : List V}, RepL g m H xs vs → RepL g m H ys ws → RepL g m H (xs ++ ys) (vs ++ ws)
  | [], _, _, _, h, t => by unfold RepL at h; subst h; exact t
  | x :: xs, ys, _, ws, h, t => by
    unfold RepL at h
    obtain ⟨v, us, rfl, h1, h2⟩ := h
    exact RepL.cons h1 (RepL.append h2 t)
theorem RepL.set {g : Gm} {m : Mm} {H : Hp} {x : PV} {v : V} (hx : Rep g m H x v) : ∀ {xs : List PV} {vs : List V} (i : Nat), RepL g m H xs vs → RepL g m H (xs.set i x) (vs.set i v)
  | [], _, _, h => by unfold RepL at h; subst h; exact RepL.nil
  | y :: ys, _, 0, h => by
    unfold RepL at h
    obtain ⟨u, us, rfl, h1, h2⟩ := h
    exact RepL.cons hx h2
  | y :: ys, _, i + 1, h => by
    unfold RepL at h
    obtain ⟨u, us, rfl, h1, h2⟩ := h
    exact RepL.cons h1 (RepL.set hx i h2)
theorem RepL.take {g : Gm} {m : Mm} {H : Hp} : ∀ {xs : List PV} {vs : List V} (n : Nat), RepL g m H xs vs → RepL g m H (xs.take n) (vs.take n)
  | _, _, 0, _ => by simp only [List.take_zero]; exact RepL.nil
  | [], _, n + 1, h => by unfold RepL at h; subst h; exact RepL.nil
  | y :: ys, _, n + 1, h => by
    unfold RepL at h
    obtain ⟨u, us, rfl, h1, h2⟩ := h
    exact RepL.cons h1 (RepL.take n h2)
theorem RepL.drop {g : Gm} {m : Mm} {H : Hp} : ∀ {xs : List PV} {vs : List V} (n : Nat), RepL g m H xs vs → RepL g m H (xs.drop n) (vs.drop n)
  | _, _, 0, h => h
  | [], _, n + 1, h => by unfold RepL at h; subst h; exact RepL.nil
  | y :: ys, _, n + 1, h => by
    unfold RepL at h
    obtain ⟨u, us, rfl, h1, h2⟩ := h
    exact RepL.drop (xs := ys) (vs := us) n h2

/-- a dict's keys, tuples of ints, all with True -/
def kvT (k : List Int) : List Key × V := (k.map Sum.inl, .bl true)
/-- what is tracked -/
def Tr (u : HO) : Prop := (∃ vs, u = .lst vs) ∨ (∃ k, u = .dT k) ∨ ∃ o k, u = .frz o (.dT k)
theorem Tr.nt {u : HO} (h : Tr u) : NT u := by
  rcases h with ⟨_, rfl⟩ | ⟨_, rfl⟩ | ⟨_, _, rfl⟩ <;> exact fun ps q => by cases q
theorem tr_lst {vs : List V} : Tr (.lst vs) := .inl ⟨vs, rfl⟩
/-- what stands in the store, and in the heap -/
def RSO (g : Gm) (m : Mm) (H : Hp) : SO → HO → Prop
  | .lst xs, u => ∃ vs, u = .lst vs ∧ RepL g m H xs vs
  | .dT ks, u => u = .dT (ks.map kvT)
  | .fz ks, u => ∃ o, u = .frz o (.dT (ks.map kvT))
theorem RSO.tr {g : Gm} {m : Mm} {H : Hp} {o : SO} {u : HO} (h : RSO g m H o u) : Tr u := by
  cases o with
  | lst xs => obtain ⟨vs, rfl, _⟩ := h; exact .inl ⟨vs, rfl⟩
  | dT ks => exact .inr (.inl ⟨_, h⟩)
  | fz ks => obtain ⟨o, rfl⟩ := h; exact .inr (.inr ⟨o, _, rfl⟩)
theorem RSO.emw {g : Gm} {m m' : Mm} {H H' : Hp} {o : SO} {u : HO} (s : Emw m H m' H') (h : RSO g m H o u) : RSO g m' H' o u := by
  cases o with
  | lst xs => obtain ⟨vs, e, r⟩ := h; exact ⟨vs, e, RepL.emw s _ _ r⟩
  | dT ks => exact h
  | fz ks => exact h
theorem RSO.emb {g : Gm} {m m' : Mm} {H H' : Hp} {o : SO} {u : HO} (s : Emb m H m' H') (h : RSO g m H o u) : RSO g m' H' o u := RSO.emw s.emw h
theorem RSO.step {g : Gm} {m m' : Mm} {H H' : Hp} {o : SO} {u : HO} (s : Step m H m' H') (h : RSO g m H o u) : RSO g m' H' o u := RSO.emb s.emb h
/-- the store -/
structure RelS (g : Gm) (m : Mm) (S : Sto) (H : Hp) : Prop where
  len : m.ix.length = S.length
  nd : m.ix.Nodup
  exs : ∀ a ∈ m.ex, a ∉ m.ix ∧ ∃ u, H a = some u ∧ Tr u
  at_ : ∀ (n : Nat) (o : SO), S[n]? = some o → ∃ a u, m.ix[n]? = some a ∧ H a = some u ∧ RSO g.bare m H o u
  tab : LamX.Tabs g.T.tabs H
/-- the names -/
structure RelE (g : Gm) (m : Mm) (H : Hp) (ρ : EnP) (σ : L2.St) : Prop where
  len : ρ.length = σ.length
  at_ : ∀ (i : Nat) (v : PV), ρ[i]? = some (some v) → ∃ w, σ[i]? = some (some w) ∧ Rep g m H v w
theorem RelE.step {g : Gm} {m m' : Mm} {H H' : Hp} {ρ : EnP} {σ : L2.St} (s : Step m H m' H') (r : RelE g m H ρ σ) : RelE g m' H' ρ σ :=
  ⟨r.len, fun i v e => let ⟨w, e1, e2⟩ := r.at_ i v e; ⟨w, e1, Rep.step s _ _ e2⟩⟩
theorem RelE.set {g : Gm} {m : Mm} {H : Hp} {ρ : EnP} {σ : L2.St} {v : PV} {w : V} (r : RelE g m H ρ σ) (i : Nat) (h : Rep g m H v w) : RelE g m H (ρ.set i (some v)) (σ.set i (some w)) := by
  refine ⟨by rw [List.length_set, List.length_set, r.len], fun j u e => ?_⟩
  by_cases hj : i = j
  · subst hj
    by_cases hi : i < ρ.length
    · rw [List.getElem?_set_self hi] at e
      cases e
      exact ⟨w, by rw [List.getElem?_set_self (by rw [← r.len]; exact hi)], h⟩
    · rw [List.getElem?_eq_none (by simpa using hi)] at e; cases e
  · rw [List.getElem?_set_ne hj] at e ⊢
    exact r.at_ j u e

/-- an error: its class by its name, its fields -/
def RepF (g : Gm) (m : Mm) (H : Hp) : List (Str × PV) → List (Str × V) → Prop
  | [], ws => ws = []
  | (f, x) :: r, ws => ∃ v us, ws = (f, v) :: us ∧ Rep g m H x v ∧ RepF g m H r us
def ExcR (g : Gm) (m : Mm) (H : Hp) (c : Str) (fs : List (Str × PV)) (cls : Value) (dd : Option Addr) : Prop :=
  ∃ C, g.mg c = some (.ref C) ∧ cls = .ref C ∧ (fs = [] → dd = none) ∧ (fs ≠ [] → ∃ d ws, dd = some d ∧ H d = some (.xd ws) ∧ RepF g m H fs ws)

/-- what is to be shown of an answer -/
def PostR {α β : Type} (g : Gm) (W : WX) (σ : L2.St) (m : Mm) (H : Hp) (R : Mm → Hp → α → β → Prop) (Q : β → Hp → Prop) : Res α → Prop
  | .ok a S' => ∀ m' H' w, Step m H m' H' → RelS g m' S' H' → R m' H' a w → Q w H'
  | .exc c fs S' => ∀ m' H' cls dd, Step m H m' H' → RelS g m' S' H' → ExcR g m' H' c fs cls dd → W cls dd σ H'
  | .bad => False
abbrev PostV (g : Gm) (W : WX) (σ : L2.St) (m : Mm) (H : Hp) (Q : VK) : Res PV → Prop := PostR g W σ m H (fun m' H' => Rep g m' H') Q
abbrev PostL (g : Gm) (W : WX) (σ : L2.St) (m : Mm) (H : Hp) (Q : List V → Hp → Prop) : Res (List PV) → Prop := PostR g W σ m H (fun m' H' => RepL g m' H') Q
abbrev PostB (g : Gm) (W : WX) (σ : L2.St) (m : Mm) (H : Hp) (Q : Bool → Hp → Prop) : Res Bool → Prop := PostR g W σ m H (fun _ _ b c => b = c) Q
theorem PostR.step {α β : Type} {g : Gm} {W : WX} {σ : L2.St} {m m1 : Mm} {H H1 : Hp} {R : Mm → Hp → α → β → Prop} {Q : β → Hp → Prop} {r : Res α} (s : Step m H m1 H1) (p : PostR g W σ m H R Q r) : PostR g W σ m1 H1 R Q r := by
  cases r with
  | ok a S => exact fun m' H' w s' h1 h2 => p m' H' w (s.trans s') h1 h2
  | exc c fs S => exact fun m' H' cls dd s' h1 h2 => p m' H' cls dd (s.trans s') h1 h2
  | bad => exact p

/-! ### judgements -/
def tr {α β : Type} (g : Gm) (W : WX) (R : Mm → Hp → α → β → Prop) (d : EnP → Sto → Res α) : L2.St → Hp → (β → Hp → Prop) → Prop :=
  fun σ H Q => ∃ ρ S m, RelE g m H ρ σ ∧ RelS g m S H ∧ PostR g W σ m H R Q (d ρ S)
abbrev tv (g : Gm) (W : WX) (d : EnP → Sto → Res PV) : TE := tr g W (fun m' H' => Rep g m' H') d
abbrev tl (g : Gm) (W : WX) (d : EnP → Sto → Res (List PV)) : TA := tr g W (fun m' H' => RepL g m' H') d
abbrev tb (g : Gm) (W : WX) (d : EnP → Sto → Res Bool) : TT := tr g W (fun _ _ b c => b = c) d
abbrev gm (X : Cx) (T : Tb) : Gm := ⟨X.K, X.mg, T, X.A.handled⟩
/-- where one stands -/
structure Ctx (X : Cx) (k : Nat) (W : WX) : Prop where
  room : Room k X.A
  gd : X.A.guards = some []
  calm : X.calm = true
  tk : Takes X W
  po : PassesOwn (model X.prog X.w) X.A X.env X.xe
abbrev CE (X : Cx) (T : Tb) (W : WX) (e : Expr) (d : EnP → Sto → Res PV) : Prop := PE X e (tv (gm X T) W d)
abbrev CA (X : Cx) (T : Tb) (W : WX) (es : List Expr) (d : EnP → Sto → Res (List PV)) : Prop := PA X es (tl (gm X T) W d)
abbrev CT (X : Cx) (T : Tb) (W : WX) (e : Expr) (d : EnP → Sto → Res Bool) : Prop := PT X e (tb (gm X T) W d)
abbrev CW (X : Cx) (T : Tb) (W : WX) (e : Expr) (d : EnP → Sto → Res Bool) : Prop := PW X e (tb (gm X T) W d)
def PostS (g : Gm) (W : WX) (D : Ends) (m : Mm) (H : Hp) : SR → Prop
  | .nx ρ S => ∀ m' H' σ', Step m H m' H' → RelS g m' S H' → RelE g m' H' ρ σ' → D.nx σ' H'
  | .bk ρ S => ∀ m' H' σ', Step m H m' H' → RelS g m' S H' → RelE g m' H' ρ σ' → D.bk σ' H'
  | .ct ρ S => ∀ m' H' σ', Step m H m' H' → RelS g m' S H' → RelE g m' H' ρ σ' → D.ct σ' H'
  | .rt v S => ∀ m' H' w, Step m H m' H' → RelS g m' S H' → Rep g m' H' v w → D.rt w H'
  | .exc c fs ρ S => ∀ m' H' σ' cls dd, Step m H m' H' → RelS g m' S H' → RelE g m' H' ρ σ' → ExcR g m' H' c fs cls dd → W cls dd σ' H'
  | .bad => False
theorem PostS.step {g : Gm} {W : WX} {D : Ends} {m m1 : Mm} {H H1 : Hp} {r : SR} (s : Step m H m1 H1) (p : PostS g W D m H r) : PostS g W D m1 H1 r := by
  cases r with
  | nx ρ S => exact fun m' H' σ' s' h1 h2 => p m' H' σ' (s.trans s') h1 h2
  | bk ρ S => exact fun m' H' σ' s' h1 h2 => p m' H' σ' (s.trans s') h1 h2
  | ct ρ S => exact fun m' H' σ' s' h1 h2 => p m' H' σ' (s.trans s') h1 h2
  | rt v S => exact fun m' H' w s' h1 h2 => p m' H' w (s.trans s') h1 h2
  | exc c fs ρ S => exact fun m' H' σ' cls dd s' h1 h2 h3 => p m' H' σ' cls dd (s.trans s') h1 h2 h3
  | bad => exact p
def ts (g : Gm) (W : WX) (d : EnP → Sto → SR) : TS := fun D σ H => ∃ ρ S m, RelE g m H ρ σ ∧ RelS g m S H ∧ PostS g W D m H (d ρ S)
abbrev CS (X : Cx) (T : Tb) (W : WX) (st : Stmt) (d : EnP → Sto → SR) : Prop := PS X st (ts (gm X T) W d)
abbrev CSs (X : Cx) (T : Tb) (W : WX) (st : List Stmt) (d : EnP → Sto → SR) : Prop := PSs X st (ts (gm X T) W d)

/-! ### weakening -/
theorem pe_imp {X : Cx} {e : Expr} {t t' : TE} (h : PE X e t) (w : ∀ σ H Q, t' σ H Q → t σ H Q) : PE X e t' := ⟨fun pins s σ H Q I q => h.run pins s σ H Q I (w σ H Q q)⟩
theorem pt_imp {X : Cx} {e : Expr} {t t' : TT} (h : PT X e t) (w : ∀ σ H Q, t' σ H Q → t σ H Q) : PT X e t' := ⟨fun pins s σ H Q I q => h.run pins s σ H Q I (w σ H Q q)⟩
theorem pw_imp {X : Cx} {e : Expr} {t t' : TT} (h : PW X e t) (w : ∀ σ H Q, t' σ H Q → t σ H Q) : PW X e t' := ⟨fun wh pins s σ H Q I q => h.run wh pins s σ H Q I (w σ H Q q)⟩
theorem pa_imp {X : Cx} {e : List Expr} {t t' : TA} (h : PA X e t) (w : ∀ σ H Q, t' σ H Q → t σ H Q) : PA X e t' := ⟨fun pos pins s σ H Q I q => h.run pos pins s σ H Q I (w σ H Q q)⟩
theorem ps_imp {X : Cx} {e : Stmt} {t t' : TS} (h : PS X e t) (w : ∀ D σ H, t' D σ H → t D σ H) : PS X e t' := ⟨fun pins s σ H D I q => h.run pins s σ H D I (w D σ H q)⟩
theorem pss_imp {X : Cx} {e : List Stmt} {t t' : TS} (h : PSs X e t) (w : ∀ D σ H, t' D σ H → t D σ H) : PSs X e t' := ⟨fun pins s σ H D I q => h.run pins s σ H D I (w D σ H q)⟩

/-- two readings in a row: from that of the first to that of the rest -/
theorem tr_bind {α β α' β' : Type} {g : Gm} {W : WX} {R : Mm → Hp → α → β → Prop} {R' : Mm → Hp → α' → β' → Prop} {d : EnP → Sto → Res α} {f : α → EnP → Sto → Res α'} {σ : L2.St} {H : Hp} {Q : β' → Hp → Prop} {ρ : EnP} {S : Sto} {m : Mm}
    (hE : RelE g m H ρ σ) (hS : RelS g m S H) (p : PostR g W σ m H R' Q ((d ρ S).bind fun a S1 => f a ρ S1)) {Q1 : β → Hp → Prop}
    (h : ∀ a S1 m1 H1 w, Step m H m1 H1 → RelE g m1 H1 ρ σ → RelS g m1 S1 H1 → R m1 H1 a w → PostR g W σ m1 H1 R' Q (f a ρ S1) → Q1 w H1) : tr g W R d σ H Q1 := by
  refine ⟨ρ, S, m, hE, hS, ?_⟩
  cases hd : d ρ S with
  | ok a S1 =>
    rw [hd] at p
    exact fun m' H' w s h1 h2 => h a S1 m' H' w s (hE.step s) h1 h2 (PostR.step s p)
  | exc c fs S1 =>
    rw [hd] at p
    exact fun m' H' cls dd s h1 h2 => p m' H' cls dd s h1 h2
  | bad =>
    rw [hd] at p
    exact p.elim
/-- an answer that is there at once -/
theorem PostR.here {α β : Type} {g : Gm} {W : WX} {σ : L2.St} {m : Mm} {H : Hp} {R : Mm → Hp → α → β → Prop} {Q : β → Hp → Prop} {a : α} {S : Sto} {w : β} (p : PostR g W σ m H R Q (.ok a S)) (hS : RelS g m S H) (r : R m H a w) : Q w H := p m H w (Step.refl m H) hS r
end Mi
end
section
set_option Elab.async false
set_option linter.all false
set_option maxRecDepth 100000
set_option maxHeartbeats 2000000
namespace Mi
open PySem PySem.Spec PyProof.Rows L2

/-! ### new objects -/
abbrev Mm.push (m : Mm) (p : Addr) : Mm := ⟨m.ix ++ [p], m.ex⟩
section
variable {g : Gm} {m : Mm} {S : Sto} {H : Hp} {p : Addr}
theorem RelS.tracked (h : RelS g m S H) {a : Addr} (ha : a ∈ m.ix) : ∃ u, H a = some u ∧ Tr u := by
  obtain ⟨n, hn, e⟩ := List.getElem_of_mem ha
  have hs : n < S.length := by rw [← h.len]; exact hn
  obtain ⟨b, u, e1, e2, e3⟩ := h.at_ n S[n] (List.getElem?_eq_getElem hs)
  rw [List.getElem?_eq_getElem hn] at e1
  have e4 := Option.some.inj e1
  rw [← e4, e] at e2
  exact ⟨u, e2, e3.tr⟩
theorem RelS.fresh (h : RelS g m S H) (hp : H p = none) : m.no p := by
  refine ⟨fun q => ?_, fun q => by obtain ⟨_, vs, e, _⟩ := h.exs p q; rw [hp] at e; cases e⟩
  obtain ⟨xs, e, _⟩ := h.tracked q
  rw [hp] at e
  cases e
theorem nil_of (hp : H p = none) : Nil H p := fun o e => by rw [hp] at e; cases e
theorem step_new {o : HO} (hp : H p = none) : Step m H m (upd H p o) :=
  ⟨⟨[], by simp⟩, fun _ h => h, fun a h1 h2 => absurd h1 h2, fun a h1 h2 => absurd h1 h2, fun a u _ e _ => by rw [upd_ne (ne_of_none e hp)]; exact e, fun a u e => by rw [upd_ne (ne_of_none e hp)]; exact e, fun a o u e => by rw [upd_ne (ne_of_none e hp)]; exact e⟩
theorem step_alloc {o : HO} (hp : H p = none) : Step m H (m.push p) (upd H p o) :=
  ⟨⟨[p], rfl⟩, fun _ h => h, fun a h1 h2 => absurd h1 h2, fun a h1 h2 => by
      rcases List.mem_append.mp h1 with z | z
      · exact absurd z h2
      · rw [List.mem_singleton.mp z]; exact nil_of hp,
    (step_new hp (m := m)).keep, (step_new hp (m := m)).tup, (step_new hp (m := m)).frz⟩
theorem tabs_new {T : List (Addr × Str)} {o : HO} (hp : H p = none) (t : LamX.Tabs T H) : LamX.Tabs T (upd H p o) := t.ext fun b u e => by rw [upd_ne (ne_of_none e hp)]; exact e
theorem RelS.new {o : HO} (h : RelS g m S H) (hp : H p = none) : RelS g m S (upd H p o) :=
  ⟨h.len, h.nd, fun a ha => ⟨(h.exs a ha).1, (h.exs a ha).2.imp fun vs e => ⟨by rw [upd_ne (ne_of_none e.1 hp)]; exact e.1, e.2⟩⟩, fun n xs e => by
    obtain ⟨a, vs, e1, e2, e3⟩ := h.at_ n xs e
    exact ⟨a, vs, e1, by rw [upd_ne (ne_of_none e2 hp)]; exact e2, RSO.step (step_new hp) e3⟩, tabs_new hp h.tab⟩
theorem RelS.allocO {o : SO} {u : HO} (h : RelS g m S H) (hp : H p = none) (r : RSO g.bare (m.push p) (upd H p u) o u) : RelS g (m.push p) (S ++ [o]) (upd H p u) := by
  refine ⟨by simp [h.len], ?_, fun a ha => ⟨fun q => ?_, (h.exs a ha).2.imp fun vs e => ⟨by rw [upd_ne (ne_of_none e.1 hp)]; exact e.1, e.2⟩⟩, fun n ys e => ?_, tabs_new hp h.tab⟩
  · rw [List.nodup_append]
    refine ⟨h.nd, by simp, fun a ha b hb q => ?_⟩
    rw [List.mem_singleton.mp hb] at q
    exact (h.fresh hp).1 (by rw [← q]; exact ha)
  · rcases List.mem_append.mp q with z | z
    · exact (h.exs a ha).1 z
    · obtain ⟨_, e, _⟩ := (h.exs a ha).2
      rw [List.mem_singleton.mp z, hp] at e
      cases e
  · by_cases hn : n < S.length
    · rw [List.getElem?_append_left hn] at e
      obtain ⟨a, us, e1, e2, e3⟩ := h.at_ n ys e
      exact ⟨a, us, by rw [List.getElem?_append_left (by rw [h.len]; exact hn)]; exact e1, by rw [upd_ne (ne_of_none e2 hp)]; exact e2, RSO.step (step_alloc hp) e3⟩
    · rw [List.getElem?_append_right (by omega)] at e
      have hz : n - S.length = 0 := by
        have z := (List.getElem?_eq_some_iff.mp e).1
        simp at z; omega
      rw [hz] at e
      cases e
      refine ⟨p, u, ?_, upd_same, r⟩
      rw [List.getElem?_append_right (by rw [h.len]; omega), h.len, hz]
      rfl
theorem RelS.alloc {xs : List PV} {vs : List V} (hb : Bare g) (h : RelS g m S H) (hp : H p = none) (r : RepL g m H xs vs) : RelS g (m.push p) (S ++ [SO.lst xs]) (upd H p (HO.lst vs)) :=
  h.allocO hp ⟨vs, rfl, by rw [hb]; exact RepL.step (step_alloc hp) _ _ r⟩
/-- what may be written -/
def Wr (u : HO) : Prop := (∃ vs, u = .lst vs) ∨ ∃ k, u = .dT k
theorem step_writeO {a : Addr} {u0 u1 : HO} (w : Wr u0) (ha : a ∈ m.ix) (h : H a = some u0) : Step m H m (upd H a u1) := by
  refine ⟨⟨[], by simp⟩, fun _ h => h, fun a h1 h2 => absurd h1 h2, fun a h1 h2 => absurd h1 h2, fun b u nb e _ => by rw [upd_ne (fun q : b = a => nb (by rw [q]; exact ha))]; exact e, fun b u e => ?_, fun b o u e => ?_⟩
  · rw [upd_ne (ne_of e h (fun z => by rcases w with ⟨_, rfl⟩ | ⟨_, rfl⟩ <;> cases z))]; exact e
  · rw [upd_ne (ne_of e h (fun z => by rcases w with ⟨_, rfl⟩ | ⟨_, rfl⟩ <;> cases z))]; exact e
theorem tabs_writeO {T : List (Addr × Str)} {a : Addr} {u0 u1 : HO} (w : Tr u0) (h : H a = some u0) (t : LamX.Tabs T H) : LamX.Tabs T (upd H a u1) := fun q hq => by
  obtain ⟨ps, h1, h2, h3⟩ := t q hq
  refine ⟨ps, by rw [upd_ne (ne_of h1 h (fun z => by rcases w with ⟨_, rfl⟩ | ⟨_, rfl⟩ | ⟨_, _, rfl⟩ <;> cases z))]; exact h1, h2, fun pos cv hc => ?_⟩
  obtain ⟨c, e1, e2⟩ := h3 pos cv hc
  exact ⟨c, e1, by rw [upd_ne (ne_of e2 h (fun z => by unfold LamX.CodeO at z; rcases w with ⟨_, rfl⟩ | ⟨_, rfl⟩ | ⟨_, _, rfl⟩ <;> cases z))]; exact e2⟩
theorem RelS.writeO {n : Nat} {a : Addr} {u0 u1 : HO} {o : SO} (h : RelS g m S H) (w : Wr u0) (hn : m.ix[n]? = some a) (hs : n < S.length) (hH : H a = some u0) (r : RSO g.bare m (upd H a u1) o u1) : RelS g m (S.set n o) (upd H a u1) := by
  have ha : a ∈ m.ix := List.mem_of_getElem? hn
  have w' : Tr u0 := w.imp id (fun z => .inl z)
  refine ⟨by rw [List.length_set]; exact h.len, h.nd, fun b hx => ⟨(h.exs b hx).1, (h.exs b hx).2.imp fun vs e => ⟨by rw [upd_ne (fun q : b = a => (h.exs b hx).1 (by rw [q]; exact ha))]; exact e.1, e.2⟩⟩, fun k ys e => ?_, tabs_writeO w' hH h.tab⟩
  by_cases hk : n = k
  · subst hk
    rw [List.getElem?_set_self hs] at e
    cases e
    exact ⟨a, u1, hn, upd_same, r⟩
  · rw [List.getElem?_set_ne hk] at e
    obtain ⟨b, ws, e1, e2, e3⟩ := h.at_ k ys e
    have nb : b ≠ a := fun q => by
      rw [q] at e1
      have l1 := (List.getElem?_eq_some_iff.mp hn).1
      exact hk ((List.getElem?_inj l1 h.nd).mp (hn.trans e1.symm))
    exact ⟨b, ws, e1, by rw [upd_ne nb]; exact e2, RSO.step (step_writeO w ha hH) e3⟩
/-- a list of the store is written -/
theorem step_write {a : Addr} {vs us : List V} (ha : a ∈ m.ix) (h : H a = some (HO.lst vs)) : Step m H m (upd H a (HO.lst us)) :=
  ⟨⟨[], by simp⟩, fun _ h => h, fun a h1 h2 => absurd h1 h2, fun a h1 h2 => absurd h1 h2, fun b u nb e _ => by rw [upd_ne (fun q : b = a => nb (by rw [q]; exact ha))]; exact e,
    fun b u e => by rw [upd_ne (ne_of e h (fun z => by cases z))]; exact e, fun b o u e => by rw [upd_ne (ne_of e h (fun z => by cases z))]; exact e⟩
theorem tabs_write {T : List (Addr × Str)} {a : Addr} {vs us : List V} (h : H a = some (HO.lst vs)) (t : LamX.Tabs T H) : LamX.Tabs T (upd H a (HO.lst us)) := tabs_writeO tr_lst h t
theorem RelS.write {n : Nat} {a : Addr} {xs : List PV} {vs us : List V} (hb : Bare g) (h : RelS g m S H) (hn : m.ix[n]? = some a) (hs : n < S.length) (hH : H a = some (HO.lst vs)) (r : RepL g m H xs us) : RelS g m (S.set n (SO.lst xs)) (upd H a (HO.lst us)) :=
  h.writeO (.inl ⟨vs, rfl⟩) hn hs hH ⟨us, rfl, by rw [hb]; exact RepL.step (step_write (List.mem_of_getElem? hn) hH) _ _ r⟩
end

/-- most items -/
abbrev lim : Nat := 16777216
theorem lim_line {n : Nat} (h : n ≤ lim) : n ≤ sizeLine := by rw [sizeLine_eq]; exact h
def mkTup (xs : List PV) (S : Sto) : Res PV := if xs.length ≤ lim then .ok (.tup xs) S else .bad
/-- a new list: one of the store (mt), or one that nobody will change -/
def mkLst (mt : Bool) (xs : List PV) (S : Sto) : Res PV := if xs.length ≤ lim then (if mt = true then .ok (.ref S.length) (S ++ [SO.lst xs]) else .ok (.nl xs) S) else .bad
section
variable {g : Gm} {W : WX} {σ : L2.St} {m : Mm} {S : Sto} {H : Hp} {Q : VK} {xs : List PV} {vs : List V}
theorem new_tup (hS : RelS g m S H) (r : RepL g m H xs vs) (p : PostV g W σ m H Q (mkTup xs S)) : vs.length ≤ sizeLine ∧ ∀ p, H p = none → Q (.ref p) (upd H p (HO.tup vs)) := by
  unfold mkTup at p
  split at p
  · rename_i h
    refine ⟨by rw [← r.length]; exact lim_line h, fun a ha => p m _ _ (step_new ha) (hS.new ha) ?_⟩
    show Rep g m _ (.tup xs) _
    unfold Rep
    exact ⟨a, vs, rfl, .inl (.inl upd_same), RepL.step (step_new ha) _ _ r⟩
  · exact p.elim
theorem new_lst {mt : Bool} (hb : mt = true → Bare g) (hS : RelS g m S H) (r : RepL g m H xs vs) (p : PostV g W σ m H Q (mkLst mt xs S)) : vs.length ≤ sizeLine ∧ ∀ p, H p = none → Q (.ref p) (upd H p (HO.lst vs)) := by
  unfold mkLst at p
  split at p
  · rename_i h
    refine ⟨by rw [← r.length]; exact lim_line h, fun a ha => ?_⟩
    cases mt with
    | true =>
      refine p (m.push a) _ _ (step_alloc ha) (hS.alloc (hb rfl) ha r) ?_
      show Rep g _ _ (.ref S.length) _
      unfold Rep
      exact ⟨a, by rw [List.getElem?_append_right (by rw [hS.len]; omega), hS.len]; simp, rfl⟩
    | false =>
      refine p m _ _ (step_new ha) (hS.new ha) ?_
      show Rep g _ _ (.nl xs) _
      unfold Rep
      exact ⟨a, vs, rfl, hS.fresh ha, upd_same, RepL.step (step_new ha) _ _ r⟩
  · exact p.elim
end

/-! ### lists and tuples that are read -/
/-- the items of a list that stands in the heap by itself -/
def lstT : PV → Sto → Option (List PV)
  | .nl xs, _ => some xs
  | .ref n, S => match S[n]? with
    | some (SO.lst xs) => some xs
    | _ => none
  | _, _ => none
def lstOf : PV → Sto → Option (List PV)
  | .fl xs, _ => some xs
  | v, S => lstT v S
def tupOf : PV → Option (List PV)
  | .tup xs => some xs
  | .ct xs => some xs
  | _ => none
def seqOf (v : PV) (S : Sto) : Option (List PV) := match tupOf v with
  | some xs => some xs
  | none => lstOf v S
section
variable {g : Gm} {m : Mm} {S : Sto} {H : Hp} {x : PV} {v : V} {xs : List PV}
theorem lstT_rep (hS : RelS g m S H) (r : Rep g m H x v) (h : lstT x S = some xs) : ∃ a vs, v = .ref a ∧ H a = some (HO.lst vs) ∧ RepL g m H xs vs := by
  cases x with
  | nl ys =>
    unfold lstT at h
    cases h
    unfold Rep at r
    obtain ⟨a, vs, e, _, h1, h2⟩ := r
    exact ⟨a, vs, e, h1, h2⟩
  | ref n =>
    simp only [lstT] at h
    unfold Rep at r
    obtain ⟨a, e1, e2⟩ := r
    cases q : S[n]? with
    | none => rw [q] at h; cases h
    | some o =>
      cases o with
      | lst ys =>
        rw [q] at h
        have h : some ys = some xs := h
        obtain ⟨b, u, f1, f2, vs, rfl, f3⟩ := hS.at_ n _ q
        cases h
        rw [e1] at f1; cases f1
        exact ⟨a, vs, e2, f2, RepL.up _ _ f3⟩
      | dT ks => rw [q] at h; cases h
      | fz ks => rw [q] at h; cases h
  | _ => unfold lstT at h; cases h
theorem lstOf_rep (hS : RelS g m S H) (r : Rep g m H x v) (h : lstOf x S = some xs) : ∃ a vs, v = .ref a ∧ SqL g.K H a vs ∧ RepL g m H xs vs := by
  have other : lstT x S = some xs → ∃ a vs, v = .ref a ∧ SqL g.K H a vs ∧ RepL g m H xs vs := fun h => by
    obtain ⟨a, vs, e, h1, h2⟩ := lstT_rep hS r h
    exact ⟨a, vs, e, .inl (.inl h1), h2⟩
  cases x with
  | fl ys =>
    unfold lstOf at h
    cases h
    unfold Rep at r
    obtain ⟨a, vs, e, h1, h2⟩ := r
    refine ⟨a, vs, e, ?_, h2⟩
    rcases h1 with ⟨o, h1⟩ | h1
    · exact .inl (.inr ⟨o, h1⟩)
    · rcases h1 with h1 | h1
      · rcases h1 with h1 | ⟨o, h1⟩ <;> cases h1
      · exact .inr h1
  | _ => exact other h
theorem tup_rep (r : Rep g m H (.tup xs) v) : ∃ a vs, v = .ref a ∧ SqT g.K H a vs ∧ RepL g m H xs vs := by
  unfold Rep at r
  obtain ⟨a, vs, e, h, k⟩ := r
  exact ⟨a, vs, e, h, k⟩
theorem sqT_h0 {K : PySem.W.Frag} {H : Hp} {a : Addr} {vs : List V} (h : SqT K H0 a vs) : SqT K H a vs := by
  rcases h with h1 | h1
  · rcases h1 with h1 | ⟨o, h1⟩ <;> cases h1
  · exact .inr h1
theorem ct_rep (r : Rep g m H (.ct xs) v) : ∃ a vs, v = .ref a ∧ SqT g.K H a vs ∧ RepL g m H xs vs := by
  unfold Rep at r
  obtain ⟨a, vs, e, h, k⟩ := r
  exact ⟨a, vs, e, sqT_h0 h, k⟩
theorem seqOf_rep (hS : RelS g m S H) (r : Rep g m H x v) (h : seqOf x S = some xs) : ∃ a vs, v = .ref a ∧ (SqL g.K H a vs ∨ SqT g.K H a vs) ∧ RepL g m H xs vs := by
  cases x with
  | tup ys =>
    unfold seqOf at h
    have h : some ys = some xs := h
    cases h
    obtain ⟨a, vs, e, h1, h2⟩ := tup_rep r
    exact ⟨a, vs, e, .inr h1, h2⟩
  | ct ys =>
    unfold seqOf at h
    have h : some ys = some xs := h
    cases h
    obtain ⟨a, vs, e, h1, h2⟩ := ct_rep r
    exact ⟨a, vs, e, .inr h1, h2⟩
  | _ =>
    obtain ⟨a, vs, e, h1, h2⟩ := lstOf_rep hS r h
    exact ⟨a, vs, e, .inl h1, h2⟩
theorem rep_int {i : Int} (r : Rep g m H (.int i) v) : v = .int i := by unfold Rep at r; exact r
theorem rep_bl {b : Bool} (r : Rep g m H (.bl b) v) : v = .bl b := by unfold Rep at r; exact r
theorem rep_str {b : Str} (r : Rep g m H (.str b) v) : v = .str b := by unfold Rep at r; exact r
theorem rep_non (r : Rep g m H .non v) : v = .non := by unfold Rep at r; exact r
theorem rep_ty {n : String} (r : Rep g m H (.ty n) v) : v = .ty n := by unfold Rep at r; exact r
theorem mk_int (i : Int) : Rep g m H (.int i) (.int i) := by unfold Rep; rfl
theorem mk_bl (i : Bool) : Rep g m H (.bl i) (.bl i) := by unfold Rep; rfl
theorem mk_str (i : Str) : Rep g m H (.str i) (.str i) := by unfold Rep; rfl
theorem mk_non : Rep g m H .non .non := by unfold Rep; rfl
theorem mk_ty (n : String) : Rep g m H (.ty n) (.ty n) := by unfold Rep; rfl
end

/-! ### names, constants -/
def dC (v : PV) : EnP → Sto → Res PV := fun _ S => .ok v S
def dV (i : Nat) : EnP → Sto → Res PV := fun ρ S => match ρ[i]? with
  | some (some v) => .ok v S
  | _ => .bad
section
variable {X : Cx} {T : Tb} {W : WX} {pos : Pos}
theorem ce_c {e : Expr} {v : V} {x : PV} (h : PE X e (tC v)) (r : ∀ m H, Rep (gm X T) m H x v) : CE X T W e (dC x) :=
  pe_imp h fun σ H Q ⟨ρ, S, m, _, hS, p⟩ => p m H v (Step.refl m H) hS (r m H)
theorem ce_int {i : Int} {j : Nat} : CE X T W (.Constant (.int i) j pos) (dC (.int i)) := ce_c pe_int fun _ _ => mk_int i
theorem ce_bl {i : Bool} {j : Nat} : CE X T W (.Constant (.bool i) j pos) (dC (.bl i)) := ce_c pe_bl fun _ _ => mk_bl i
theorem ce_str {i : Str} {j : Nat} : CE X T W (.Constant (.str i) j pos) (dC (.str i)) := ce_c pe_str fun _ _ => mk_str i
theorem ce_non {j : Nat} : CE X T W (.Constant .none j pos) (dC .non) := ce_c pe_non fun _ _ => mk_non
theorem ce_v (i : Nat) {x : Str} (hN : X.N[i]? = some x := by rfl) (hv : Vis X.env.scope x := by first | exact Or.inl rfl | exact Or.inr (Or.inl rfl) | exact Or.inr (Or.inr rfl)) (hd : (x == ("__debug__" : Str)) = false := by decide)
    (hcd : (x == ("__classdict__" : Str)) = false := by decide) : CE X T W (.Name x pos) (dV i) :=
  pe_imp (pe_var hN hv hd hcd) fun σ H Q ⟨ρ, S, m, hE, hS, p⟩ => by
    unfold dV at p
    split at p
    · rename_i v e
      obtain ⟨w, e1, e2⟩ := hE.at_ i v e
      exact ⟨w, e1, p m H w (Step.refl m H) hS e2⟩
    · exact p.elim
theorem ce_gint {x : Str} {i : Int} {t : Tok} (hg : Gl X x) (hm : X.mg x = some (.int i t)) (hd : (x == ("__debug__" : Str)) = false := by decide) : CE X T W (.Name x pos) (dC (.int i)) := ce_c (v := .int i) (pe_glob hg hm ⟨t, rfl⟩ hd) fun _ _ => mk_int i
theorem ce_gstr {x : Str} {i : Str} {t : Tok} (hg : Gl X x) (hm : X.mg x = some (.str i t)) (hd : (x == ("__debug__" : Str)) = false := by decide) : CE X T W (.Name x pos) (dC (.str i)) := ce_c (v := .str i) (pe_glob hg hm ⟨t, rfl⟩ hd) fun _ _ => mk_str i
theorem ce_gfn {x : Str} {f : Addr} (hg : Gl X x) (hm : X.mg x = some (.ref f)) (hd : (x == ("__debug__" : Str)) = false := by decide) : CE X T W (.Name x pos) (dC (.glb x)) :=
  ce_c (v := .ref f) (pe_glob hg hm rfl hd) fun _ _ => by unfold Rep; exact ⟨f, hm, rfl⟩
theorem ce_bty {x : Str} {n : String} (hg : Gl X x) (hm : X.mg x = none) (hv : bootBuiltins x = some (.type n)) (hn : x ≠ "__name__" := by decide) (hd : (x == ("__debug__" : Str)) = false := by decide) : CE X T W (.Name x pos) (dC (.ty n)) :=
  ce_c (v := .ty n) (pe_bltn hg hm hv rfl hn hd) fun _ _ => mk_ty n
end

/-! ### two operands -/
def dBin (f : PV → PV → Sto → Res PV) (da db : EnP → Sto → Res PV) : EnP → Sto → Res PV := fun ρ S => (da ρ S).bind fun x S1 => (db ρ S1).bind fun y S2 => f x y S2
def dUn (f : PV → Sto → Res PV) (da : EnP → Sto → Res PV) : EnP → Sto → Res PV := fun ρ S => (da ρ S).bind fun x S1 => f x S1
/-- an operation on trees is sound for one on values -/
def Snd (g : Gm) (r : R2) (f : PV → PV → Sto → Res PV) : Prop :=
  ∀ (W : WX) (σ : L2.St) (m : Mm) (S : Sto) (H : Hp) (x y : PV) (v u : V) (Q : VK), RelS g m S H → Rep g m H x v → Rep g m H y u → PostV g W σ m H Q (f x y S) → r v u H Q
def Snd1 (g : Gm) (r : V → Hp → VK → Prop) (f : PV → Sto → Res PV) : Prop :=
  ∀ (W : WX) (σ : L2.St) (m : Mm) (S : Sto) (H : Hp) (x : PV) (v : V) (Q : VK), RelS g m S H → Rep g m H x v → PostV g W σ m H Q (f x S) → r v H Q
section
variable {X : Cx} {T : Tb} {W : WX} {pos : Pos} {a b : Expr} {da db : EnP → Sto → Res PV} {f : PV → PV → Sto → Res PV} {r : R2}
theorem two_of (hs : Snd (gm X T) r f) {σ : L2.St} {H : Hp} {Q : VK} (h : tv (gm X T) W (dBin f da db) σ H Q) : tOp r (tv (gm X T) W da) (tv (gm X T) W db) σ H Q := by
  obtain ⟨ρ, S, m, hE, hS, p⟩ := h
  exact tr_bind (f := fun a ρ S1 => (db ρ S1).bind fun y S2 => f a y S2) hE hS p fun x S1 m1 H1 w s1 hE1 hS1 hr1 p1 => tr_bind (f := fun b ρ S2 => f x b S2) hE1 hS1 p1 fun y S2 m2 H2 w2 s2 hE2 hS2 hr2 p2 => hs W σ m2 S2 H2 x y w w2 Q hS2 (hr1.step s2) hr2 p2
theorem ce_bin {op : Operator} (ho : OpR X (binaryOp op) r) (hs : Snd (gm X T) r f) (ha : CE X T W a da) (hb : CE X T W b db) : CE X T W (.BinOp a op b pos) (dBin f da db) :=
  pe_imp (pe_op ho ha hb) fun σ H Q h => two_of hs h
theorem ce_cmp {op : CmpOp} (ho : OpR X (compareOp op) r) (hs : Snd (gm X T) r f) (ha : CE X T W a da) (hb : CE X T W b db) (hm : behindInMarks op b = false) : CE X T W (.Compare a [op] [b] pos) (dBin f da db) :=
  pe_imp (pe_cmpR ho ha hb hm) fun σ H Q h => two_of hs h
/-- a value that must be a bool -/
def asB : Res PV → Res Bool
  | .ok (.bl b) S => .ok b S
  | .exc c fs S => .exc c fs S
  | _ => .bad
theorem asB_post {g : Gm} {σ : L2.St} {m : Mm} {H : Hp} {Q : Bool → Hp → Prop} {r : Res PV} (p : PostB g W σ m H Q (asB r)) : PostV g W σ m H (fun x H' => ∃ k, x = .bl k ∧ Q k H') r := by
  cases r with
  | ok v S =>
    cases v with
    | bl b => exact fun m' H' w s h1 h2 => ⟨b, rep_bl h2, p m' H' b s h1 rfl⟩
    | _ => exact p.elim
  | exc c fs S => exact p
  | bad => exact p
def dB (d : EnP → Sto → Res PV) : EnP → Sto → Res Bool := fun ρ S => asB (d ρ S)
theorem ct_cmp {op : CmpOp} (ho : OpR X (compareOp op) r) (hs : Snd (gm X T) r f) (ha : CE X T W a da) (hb : CE X T W b db) (hm : behindInMarks op b = false) : CT X T W (.Compare a [op] [b] pos) (dB (dBin f da db)) :=
  pt_imp (pt_cmpR ho ha hb hm) fun σ H Q ⟨ρ, S, m, hE, hS, p⟩ => two_of hs ⟨ρ, S, m, hE, hS, asB_post p⟩
theorem ce_un {op : UnaryOp} {r : V → Hp → VK → Prop} {f : PV → Sto → Res PV} (ho : UnR X (unaryOp op) r) (hs : Snd1 (gm X T) r f) (ha : CE X T W a da) : CE X T W (.UnaryOp op a pos) (dUn f da) :=
  pe_imp (pe_un ho ha) fun σ H Q ⟨ρ, S, m, hE, hS, p⟩ => tr_bind (f := fun x ρ S1 => f x S1) hE hS p fun x S1 m1 H1 w s1 hE1 hS1 hr1 p1 => hs W σ m1 S1 H1 x w Q hS1 hr1 p1
end
/-! ### arithmetic -/
def fAdd (mt : Bool) : PV → PV → Sto → Res PV
  | .int i, .int j, S => .ok (.int (i + j)) S
  | .str a, .str b, S => if a.length + b.length ≤ lim then .ok (.str (a ++ b)) S else .bad
  | .tup xs, .tup ys, S => mkTup (xs ++ ys) S
  | x, y, S => match lstT x S, lstT y S with
    | some xs, some ys => mkLst mt (xs ++ ys) S
    | _, _ => .bad
def fSub : PV → PV → Sto → Res PV
  | .int i, .int j, S => .ok (.int (i - j)) S
  | _, _, _ => .bad
def fMul (mt : Bool) : PV → PV → Sto → Res PV
  | .int i, .int j, S => if i.natAbs.log2 + j.natAbs.log2 < 100000000 then .ok (.int (i * j)) S else .bad
  | x, .int k, S => match lstT x S with
    | some xs => if 0 ≤ k ∧ k ≤ 1000 ∧ xs.length ≤ 1000 then mkLst mt (List.replicate k.toNat xs).flatten S else .bad
    | none => .bad
  | _, _, _ => .bad
def fDiv : PV → PV → Sto → Res PV
  | .int i, .int j, S => if j ≠ 0 ∧ j.natAbs.log2 < 9000 then .ok (.int (i.fdiv j)) S else .bad
  | _, _, _ => .bad
def fMod : PV → PV → Sto → Res PV
  | .int i, .int j, S => if j ≠ 0 then .ok (.int (i.fmod j)) S else .bad
  | _, _, _ => .bad
def fPow : PV → PV → Sto → Res PV
  | .int i, .int j, S => if 0 ≤ j ∧ j ≤ 1000000 ∧ i.natAbs < 2 ^ 64 then .ok (.int (i ^ j.toNat)) S else .bad
  | _, _, _ => .bad
def rAddM (K : PySem.W.Frag) : R2 := fun x y H Q => (rI0 (fun i j => .int (i + j)) x y H Q ∨ (∃ i j, x = .str i ∧ y = .str j ∧ i.length + j.length ≤ sizeLine ∧ Q (.str (i ++ j)) H)) ∨ (rCatA K x y H Q ∨ rCat x y H Q)
section
variable {X : Cx} {T : Tb}
theorem op_addM : OpR X (binaryOp .Add) (rAddM X.K) := (op_add.or op_add_str).or (op_catA.or op_cat)
theorem sn_add (mt : Bool) (hb : mt = true → Bare (gm X T)) : Snd (gm X T) (rAddM X.K) (fAdd mt) := by
  intro W σ m S H x y v u Q hS rx ry p
  have lists : PostV (gm X T) W σ m H Q (match lstT x S, lstT y S with | some xs, some ys => mkLst mt (xs ++ ys) S | _, _ => .bad) → rAddM X.K v u H Q := fun p => by
    cases e1 : lstT x S with
    | none => rw [e1] at p; exact p.elim
    | some xs =>
      cases e2 : lstT y S with
      | none => rw [e1, e2] at p; exact p.elim
      | some ys =>
        rw [e1, e2] at p
        obtain ⟨a, vs, rfl, h1, r1⟩ := lstT_rep hS rx e1
        obtain ⟨b, us, rfl, h2, r2⟩ := lstT_rep hS ry e2
        obtain ⟨z, q⟩ := new_lst hb hS (r1.append r2) p
        rw [List.length_append] at z
        exact .inr (.inr ⟨a, b, vs, us, rfl, rfl, h1, h2, z, q⟩)
  unfold fAdd at p
  split at p
  · cases rep_int rx
    cases rep_int ry
    exact .inl (.inl ⟨_, _, rfl, rfl, p.here hS (mk_int _)⟩)
  · cases rep_str rx
    cases rep_str ry
    split at p
    · rename_i h
      exact .inl (.inr ⟨_, _, rfl, rfl, lim_line h, p.here hS (mk_str _)⟩)
    · exact p.elim
  · rename_i xs ys
    obtain ⟨a, vs, rfl, h1, r1⟩ := tup_rep rx
    obtain ⟨b, us, rfl, h2, r2⟩ := tup_rep ry
    obtain ⟨z, q⟩ := new_tup hS (r1.append r2) p
    rw [List.length_append] at z
    have hz : xs.length + ys.length ≤ lim := by
      have e : vs.length + us.length ≤ sizeLine := z
      rw [sizeLine_eq, ← r1.length, ← r2.length] at e
      exact e
    have pt : ∀ w, Rep (gm X T) m H (.tup (xs ++ ys)) w → Q w H := fun w r => by
      unfold mkTup at p
      rw [if_pos (by rw [List.length_append]; exact hz)] at p
      exact p.here hS r
    refine .inr (.inl ⟨a, b, vs, us, rfl, rfl, h1, h2, z, fun e => ?_, fun _ e => ?_, fun _ _ => q⟩)
    · have e0 : xs = [] := by have := r1.length; rw [e] at this; exact List.length_eq_zero_iff.mp (by simpa using this)
      exact pt _ (by rw [e0]; exact ry)
    · have e0 : ys = [] := by have := r2.length; rw [e] at this; exact List.length_eq_zero_iff.mp (by simpa using this)
      exact pt _ (by rw [e0, List.append_nil]; exact rx)
  · exact lists p
theorem sn_sub : Snd (gm X T) (rI0 fun i j => .int (i - j)) fSub := by
  intro W σ m S H x y v u Q hS rx ry p
  unfold fSub at p
  split at p
  · cases rep_int rx
    cases rep_int ry
    exact ⟨_, _, rfl, rfl, p.here hS (mk_int _)⟩
  · exact p.elim
theorem mulX_of {i j : Int} (h : i.natAbs.log2 + j.natAbs.log2 < 100000000) : CMulX i j := by
  have b : ∀ x : Int, Builtin.Int.intBits x ≤ x.natAbs.log2 + 1 := fun x => by
    unfold Builtin.Int.intBits
    split <;> omega
  have h1 := b i
  have h2 := b j
  unfold CMulX
  omega
def rMulM : R2 := fun x y H Q => rI CMulX (fun i j => .int (i * j)) x y H Q ∨ rRep x y H Q
theorem op_mulM : OpR X (binaryOp .Mult) rMulM := op_mulX.or op_rep
theorem flat_len (k : Nat) (xs : List PV) : (List.replicate k xs).flatten.length = k * xs.length := by
  induction k with
  | zero => simp
  | succ k ih => rw [List.replicate_succ, List.flatten_cons, List.length_append, ih, Nat.succ_mul, Nat.add_comm]
theorem flat_rep {g : Gm} {m : Mm} {H : Hp} {xs : List PV} {vs : List V} (r : RepL g m H xs vs) : ∀ k : Nat, RepL g m H (List.replicate k xs).flatten (List.replicate k vs).flatten
  | 0 => RepL.nil
  | k + 1 => by
    rw [List.replicate_succ, List.flatten_cons, List.replicate_succ, List.flatten_cons]
    exact r.append (flat_rep r k)
theorem sn_mul (mt : Bool) (hb : mt = true → Bare (gm X T)) : Snd (gm X T) rMulM (fMul mt) := by
  intro W σ m S H x y v u Q hS rx ry p
  unfold fMul at p
  split at p
  · cases rep_int rx
    cases rep_int ry
    split at p
    · rename_i h
      exact .inl ⟨_, _, rfl, rfl, mulX_of h, p.here hS (mk_int _)⟩
    · exact p.elim
  · cases rep_int ry
    rename_i k _
    cases e1 : lstT x S with
    | none => rw [e1] at p; exact p.elim
    | some xs =>
      rw [e1] at p
      obtain ⟨a, vs, rfl, h1, r1⟩ := lstT_rep hS rx e1
      have p : PostV (gm X T) W σ m H Q (if 0 ≤ k ∧ k ≤ 1000 ∧ xs.length ≤ 1000 then mkLst mt (List.replicate k.toNat xs).flatten S else .bad) := p
      split at p
      · rename_i h
        obtain ⟨z1, z2, z3⟩ := h
        obtain ⟨z, q⟩ := new_lst hb hS (flat_rep r1 k.toNat) p
        refine .inr ⟨a, k, vs, rfl, rfl, h1, by omega, by omega, ?_, q⟩
        rw [sizeLine_eq, ← r1.length]
        have := Nat.mul_le_mul z3 (show k.toNat ≤ 1000 by omega)
        omega
      · exact p.elim
  · exact p.elim
theorem op_fdivA : OpR X (binaryOp .FloorDiv) (rI (fun _ j => j ≠ 0 ∧ j.natAbs.log2 < 9000) fun i j => .int (i.fdiv j)) := opI fun _ _ _ _ _ _ _ hc q => floordiv_int hc.1 q (.inl (PyProof.noPylong_of_log2 hc.2))
theorem sn_div : Snd (gm X T) (rI (fun _ j => j ≠ 0 ∧ j.natAbs.log2 < 9000) fun i j => .int (i.fdiv j)) fDiv := by
  intro W σ m S H x y v u Q hS rx ry p
  unfold fDiv at p
  split at p
  · cases rep_int rx
    cases rep_int ry
    split at p
    · rename_i h
      exact ⟨_, _, rfl, rfl, h, p.here hS (mk_int _)⟩
    · exact p.elim
  · exact p.elim
theorem sn_mod : Snd (gm X T) (rI (fun _ j => j ≠ 0) fun i j => .int (i.fmod j)) fMod := by
  intro W σ m S H x y v u Q hS rx ry p
  unfold fMod at p
  split at p
  · cases rep_int rx
    cases rep_int ry
    split at p
    · rename_i h
      exact ⟨_, _, rfl, rfl, h, p.here hS (mk_int _)⟩
    · exact p.elim
  · exact p.elim
theorem sn_pow : Snd (gm X T) (rI CPow fun i j => .int (i ^ j.toNat)) fPow := by
  intro W σ m S H x y v u Q hS rx ry p
  unfold fPow at p
  split at p
  · cases rep_int rx
    cases rep_int ry
    split at p
    · rename_i h
      exact ⟨_, _, rfl, rfl, h, p.here hS (mk_int _)⟩
    · exact p.elim
  · exact p.elim
def fNeg : PV → Sto → Res PV
  | .int i, S => .ok (.int (-i)) S
  | _, _ => .bad
theorem sn_neg : Snd1 (gm X T) (rU fun i => .int (-i)) fNeg := by
  intro W σ m S H x v Q hS rx p
  unfold fNeg at p
  split at p
  · cases rep_int rx
    exact ⟨_, rfl, p.here hS (mk_int _)⟩
  · exact p.elim
end
end Mi
end
section
set_option Elab.async false
set_option linter.all false
set_option maxRecDepth 100000
set_option maxHeartbeats 2000000
namespace Mi
open PySem PySem.Spec PyProof.Rows L2

/-! ### == and repr, by data -/
mutual
def toD : PV → Option PyData
  | .non => some .none
  | .bl b => some (.bool b)
  | .int i => some (.int i)
  | .str s => some (.str s)
  | .tup xs => (toDL xs).map PyData.tuple
  | .ct xs => (toDL xs).map PyData.tuple
  | .nl xs => (toDL xs).map PyData.list
  | .fl xs => (toDL xs).map PyData.list
  | _ => none
def toDL : List PV → Option (List PyData)
  | [] => some []
  | x :: xs => match toD x, toDL xs with
    | some d, some ds => some (d :: ds)
    | _, _ => none
end
def toDS : PV → Sto → Option PyData
  | .ref n, S => match S[n]? with
    | some (SO.lst xs) => (toDL xs).map PyData.list
    | _ => none
  | v, _ => toD v
section
variable {g : Gm} {m : Mm} {S : Sto} {H : Hp}
mutual
theorem dp_of : ∀ (x : PV) (v : V) (d : PyData), Rep g m H x v → toD x = some d → Dp g.K H v d
  | .non, v, d, r, e => by unfold toD at e; cases e; rw [rep_non r]; exact .non
  | .bl b, v, d, r, e => by unfold toD at e; cases e; rw [rep_bl r]; exact .bl b
  | .int i, v, d, r, e => by unfold toD at e; cases e; rw [rep_int r]; exact .int i
  | .str s, v, d, r, e => by unfold toD at e; cases e; rw [rep_str r]; exact .str s
  | .tup xs, v, d, r, e => by
    unfold toD at e
    obtain ⟨a, vs, rfl, h1, h2⟩ := tup_rep r
    cases q : toDL xs with
    | none => rw [q] at e; cases e
    | some ds => rw [q] at e; cases e; exact .tup h1 (dpL_of xs vs ds h2 q)
  | .ct xs, v, d, r, e => by
    unfold toD at e
    obtain ⟨a, vs, rfl, h1, h2⟩ := ct_rep r
    cases q : toDL xs with
    | none => rw [q] at e; cases e
    | some ds => rw [q] at e; cases e; exact .tup h1 (dpL_of xs vs ds h2 q)
  | .nl xs, v, d, r, e => by
    unfold toD at e
    unfold Rep at r
    obtain ⟨a, vs, rfl, _, h1, h2⟩ := r
    cases q : toDL xs with
    | none => rw [q] at e; cases e
    | some ds => rw [q] at e; cases e; exact .lst (.inl (.inl h1)) (dpL_of xs vs ds h2 q)
  | .fl xs, v, d, r, e => by
    unfold toD at e
    unfold Rep at r
    obtain ⟨a, vs, rfl, h1, h2⟩ := r
    cases q : toDL xs with
    | none => rw [q] at e; cases e
    | some ds =>
      rw [q] at e
      cases e
      refine .lst ?_ (dpL_of xs vs ds h2 q)
      rcases h1 with ⟨o, h1⟩ | h1
      · exact .inl (.inr ⟨o, h1⟩)
      · rcases h1 with h1 | h1
        · rcases h1 with h1 | ⟨o, h1⟩ <;> cases h1
        · exact .inr h1
  | .nd _ _, _, _, _, e => by unfold toD at e; cases e
  | .ref _, _, _, _, e => by unfold toD at e; cases e
  | .ty _, _, _, _, e => by unfold toD at e; cases e
  | .glb _, _, _, _, e => by unfold toD at e; cases e
  | .err, _, _, _, e => by unfold toD at e; cases e
  | .lam, _, _, _, e => by unfold toD at e; cases e
theorem dpL_of : ∀ (xs : List PV) (vs : List V) (ds : List PyData), RepL g m H xs vs → toDL xs = some ds → DpAll g.K H vs ds
  | [], vs, ds, r, e => by
    unfold toDL at e
    cases e
    unfold RepL at r
    rw [r]
    exact .nil
  | x :: xs, vs, ds, r, e => by
    unfold toDL at e
    unfold RepL at r
    obtain ⟨v, ws, rfl, h1, h2⟩ := r
    cases q1 : toD x with
    | none => rw [q1] at e; cases e
    | some d =>
      cases q2 : toDL xs with
      | none => rw [q1, q2] at e; cases e
      | some es =>
        rw [q1, q2] at e
        cases e
        exact .cons (dp_of x v d h1 q1) (dpL_of xs ws es h2 q2)
end
theorem dpS_of {x : PV} {v : V} {d : PyData} (hS : RelS g m S H) (r : Rep g m H x v) (e : toDS x S = some d) : Dp g.K H v d := by
  cases x with
  | ref n =>
    simp only [toDS] at e
    cases q : S[n]? with
    | none => rw [q] at e; cases e
    | some o =>
      cases o with
      | lst xs =>
        rw [q] at e
        have e : (toDL xs).map PyData.list = some d := e
        obtain ⟨a, u, f1, f2, vs, rfl, f3⟩ := hS.at_ n _ q
        unfold Rep at r
        obtain ⟨b, e1, e2⟩ := r
        rw [f1] at e1; cases e1
        cases q2 : toDL xs with
        | none => rw [q2] at e; cases e
        | some ds => rw [q2] at e; cases e; rw [e2]; exact .lst (.inl (.inl f2)) (dpL_of xs vs ds (RepL.up _ _ f3) q2)
      | dT ks => rw [q] at e; cases e
      | fz ks => rw [q] at e; cases e
  | _ => exact dp_of _ v d r e
end
def fEq (neg : Bool) (x y : PV) (S : Sto) : Res PV := match toDS x S, toDS y S with
  | some d, some e => if SeqAt.shaped d = true ∧ SeqAt.shaped e = true then .ok (.bl (if neg = true then !PyData.eqv d e else PyData.eqv d e)) S else .bad
  | _, _ => .bad
section
variable {X : Cx} {T : Tb}
theorem sn_eq : Snd (gm X T) (rEqD X.K) (fEq false) := by
  intro W σ m S H x y v u Q hS rx ry p
  unfold fEq at p
  split at p
  · rename_i d e h1 h2
    split at p
    · rename_i h
      exact ⟨d, e, dpS_of hS rx h1, dpS_of hS ry h2, h.1, h.2, p.here hS (mk_bl _)⟩
    · exact p.elim
  · exact p.elim
theorem sn_ne : Snd (gm X T) (rNeD X.K) (fEq true) := by
  intro W σ m S H x y v u Q hS rx ry p
  unfold fEq at p
  split at p
  · rename_i d e h1 h2
    split at p
    · rename_i h
      exact ⟨d, e, dpS_of hS rx h1, dpS_of hS ry h2, h.1, h.2, p.here hS (mk_bl _)⟩
    · exact p.elim
  · exact p.elim
def fCmpI (f : Int → Int → Bool) : PV → PV → Sto → Res PV
  | .int i, .int j, S => .ok (.bl (f i j)) S
  | _, _, _ => .bad
theorem sn_cmpI (f : Int → Int → Bool) : Snd (gm X T) (rI0 fun i j => .bl (f i j)) (fCmpI f) := by
  intro W σ m S H x y v u Q hS rx ry p
  unfold fCmpI at p
  split at p
  · cases rep_int rx
    cases rep_int ry
    exact ⟨_, _, rfl, rfl, p.here hS (mk_bl _)⟩
  · exact p.elim
abbrev iLt (i j : Int) : Bool := decide (i < j)
abbrev iLe (i j : Int) : Bool := decide (i ≤ j)
abbrev iGt (i j : Int) : Bool := decide (j < i)
abbrev iGe (i j : Int) : Bool := decide (j ≤ i)
/-- < and <= of texts, by their signs -/
def fCmpS (f : List Nat → List Nat → Bool) : PV → PV → Sto → Res PV
  | .str i, .str j, S => .ok (.bl (f i.cps.toList j.cps.toList)) S
  | _, _, _ => .bad
/-- is, is not, of a bool -/
def isBv : PV → Bool → Bool
  | .bl a, b => a == b
  | _, _ => false
def fIs (neg : Bool) : PV → PV → Sto → Res PV
  | x, .bl b, S => .ok (.bl (if neg = true then !isBv x b else isBv x b)) S
  | _, _, _ => .bad
def isNon : PV → Bool
  | .non => true
  | _ => false
def fIsN (neg : Bool) : PV → PV → Sto → Res PV
  | x, .non, S => .ok (.bl (if neg = true then !isNon x else isNon x)) S
  | _, _, _ => .bad
theorem isNon_rep {g : Gm} {m : Mm} {H : Hp} {x : PV} {v : V} (r : Rep g m H x v) : decide (v = V.non) = isNon x := by
  cases x with
  | non => rw [rep_non r]; simp [isNon]
  | bl b => rw [rep_bl r]; simp [isNon]
  | int b => rw [rep_int r]; simp [isNon]
  | str b => rw [rep_str r]; simp [isNon]
  | ty b => rw [rep_ty r]; simp [isNon]
  | tup xs => obtain ⟨a, vs, rfl, _⟩ := tup_rep r; simp [isNon]
  | ct xs => obtain ⟨a, vs, rfl, _⟩ := ct_rep r; simp [isNon]
  | nl xs => unfold Rep at r; obtain ⟨a, vs, rfl, _⟩ := r; simp [isNon]
  | fl xs => unfold Rep at r; obtain ⟨a, vs, rfl, _⟩ := r; simp [isNon]
  | nd ks xs => unfold Rep at r; obtain ⟨a, vs, rfl, _⟩ := r; simp [isNon]
  | ref n => unfold Rep at r; obtain ⟨a, _, rfl⟩ := r; simp [isNon]
  | glb n => unfold Rep at r; obtain ⟨a, _, rfl⟩ := r; simp [isNon]
  | err => unfold Rep at r; obtain ⟨a, _, rfl, _⟩ := r; simp [isNon]
  | lam => unfold Rep at r; obtain ⟨i, _, rfl, _⟩ := r; simp [isNon]
theorem sn_isN : Snd (gm X T) (fun x y H Q => y = .non ∧ Q (.bl (decide (x = .non))) H) (fIsN false) := by
  intro W σ m S H x y v u Q hS rx ry p
  unfold fIsN at p
  split at p
  · rw [isNon_rep rx]
    exact ⟨rep_non ry, p.here hS (mk_bl _)⟩
  · exact p.elim
theorem sn_notN : Snd (gm X T) (fun x y H Q => y = .non ∧ Q (.bl (!decide (x = .non))) H) (fIsN true) := by
  intro W σ m S H x y v u Q hS rx ry p
  unfold fIsN at p
  split at p
  · rw [isNon_rep rx]
    exact ⟨rep_non ry, p.here hS (mk_bl _)⟩
  · exact p.elim
theorem dec_beq (a b : Bool) : decide (a = b) = (a == b) := by cases a <;> cases b <;> rfl
theorem isBv_rep {g : Gm} {m : Mm} {H : Hp} {x : PV} {v : V} {b : Bool} (r : Rep g m H x v) : decide (v = V.bl b) = isBv x b := by
  cases x with
  | non => rw [rep_non r]; simp [isBv]
  | bl c => rw [rep_bl r]; simp [isBv]; exact dec_beq c b
  | int b => rw [rep_int r]; simp [isBv]
  | str b => rw [rep_str r]; simp [isBv]
  | ty b => rw [rep_ty r]; simp [isBv]
  | tup xs => obtain ⟨a, vs, rfl, _⟩ := tup_rep r; simp [isBv]
  | ct xs => obtain ⟨a, vs, rfl, _⟩ := ct_rep r; simp [isBv]
  | nl xs => unfold Rep at r; obtain ⟨a, vs, rfl, _⟩ := r; simp [isBv]
  | fl xs => unfold Rep at r; obtain ⟨a, vs, rfl, _⟩ := r; simp [isBv]
  | nd ks xs => unfold Rep at r; obtain ⟨a, vs, rfl, _⟩ := r; simp [isBv]
  | ref n => unfold Rep at r; obtain ⟨a, _, rfl⟩ := r; simp [isBv]
  | glb n => unfold Rep at r; obtain ⟨a, _, rfl⟩ := r; simp [isBv]
  | err => unfold Rep at r; obtain ⟨a, _, rfl, _⟩ := r; simp [isBv]
  | lam => unfold Rep at r; obtain ⟨i, _, rfl, _⟩ := r; simp [isBv]
/-- any value is, is not a bool -/
def rIsA : R2 := fun x y H Q => ∃ b : Bool, y = .bl b ∧ Q (.bl (decide (x = .bl b))) H
def rNotA : R2 := fun x y H Q => ∃ b : Bool, y = .bl b ∧ Q (.bl (!decide (x = .bl b))) H
theorem same_b {M : Model} {A : Around} {E : Value → Shared → Prop} {s : Shared} {x : V} {u : Value} {b : Bool} {R : Bool → Shared → Prop} (r : RelV x u) (q : R (decide (x = .bl b)) s) : wpAny M A (isSame u (.bool b)) R E s := by
  have go : ∀ {u : Value}, plainIs u (.bool b) = true → (u == Value.bool b) = decide (x = .bl b) → wpAny M A (isSame u (.bool b)) R E s := fun h1 h2 => wpAny_isSame_plain h1 (by rw [h2]; exact q)
  cases x with
  | ref a => cases r; exact go rfl rfl
  | non => cases r; exact go rfl rfl
  | bl c =>
    cases r
    refine go rfl ?_
    cases b <;> cases c <;> rfl
  | int i => obtain ⟨t, rfl⟩ := r; exact go rfl rfl
  | str x => obtain ⟨t, rfl⟩ := r; exact go rfl rfl
  | byt x => obtain ⟨t, rfl⟩ := r; exact go rfl rfl
  | flt x => obtain ⟨t, rfl⟩ := r; exact go rfl rfl
  | ty n => cases r; exact go rfl rfl
theorem op_isA : OpR X (compareOp .Is) rIsA := by
  intro pins s σ H x y v u Q I rx ry h
  obtain ⟨b, rfl, q⟩ := h
  cases (show u = Value.bool b from ry)
  show wpAny _ _ ((isSame v (Value.bool b)) >>= fun z => pure (Value.bool z)) _ _ s
  exact wpAny_bind (same_b rx (wpAny_pure ⟨.bl _, H, I, rfl, q⟩))
theorem op_notA : OpR X (compareOp .IsNot) rNotA := by
  intro pins s σ H x y v u Q I rx ry h
  obtain ⟨b, rfl, q⟩ := h
  cases (show u = Value.bool b from ry)
  show wpAny _ _ ((isSame v (Value.bool b)) >>= fun z => pure (Value.bool (!z))) _ _ s
  exact wpAny_bind (same_b rx (wpAny_pure ⟨.bl _, H, I, rfl, q⟩))
theorem sn_isB : Snd (gm X T) rIsA (fIs false) := by
  intro W σ m S H x y v u Q hS rx ry p
  unfold fIs at p
  split at p
  · refine ⟨_, rep_bl ry, ?_⟩
    rw [isBv_rep rx]
    exact p.here hS (mk_bl _)
  · exact p.elim
theorem sn_notB : Snd (gm X T) rNotA (fIs true) := by
  intro W σ m S H x y v u Q hS rx ry p
  unfold fIs at p
  split at p
  · refine ⟨_, rep_bl ry, ?_⟩
    rw [isBv_rep rx]
    exact p.here hS (mk_bl _)
  · exact p.elim
end
/-- x in (flat items) -/
def flatP : PV → Bool
  | .non | .bl _ | .int _ | .str _ => true
  | _ => false
def toV : PV → V
  | .non => .non
  | .bl b => .bl b
  | .int i => .int i
  | .str s => .str s
  | _ => .non
def eqP (x y : PV) : Bool := eqV (toV x) (toV y)
def inP (x : PV) (xs : List PV) : Bool := xs.any fun y => eqP y x
def fIn (neg : Bool) (x y : PV) (S : Sto) : Res PV := match seqOf y S with
  | some xs => if flatP x = true ∧ xs.all flatP = true then .ok (.bl (if neg = true then !inP x xs else inP x xs)) S else .bad
  | none => .bad
section
variable {X : Cx} {T : Tb}
theorem toV_rep {g : Gm} {m : Mm} {H : Hp} {x : PV} {v : V} (r : Rep g m H x v) (h : flatP x = true) : v = toV x ∧ flatV v = true := by
  cases x with
  | non => rw [rep_non r]; exact ⟨rfl, rfl⟩
  | bl b => rw [rep_bl r]; exact ⟨rfl, rfl⟩
  | int b => rw [rep_int r]; exact ⟨rfl, rfl⟩
  | str b => rw [rep_str r]; exact ⟨rfl, rfl⟩
  | _ => cases h
theorem toVL_rep {g : Gm} {m : Mm} {H : Hp} : ∀ {xs : List PV} {vs : List V}, RepL g m H xs vs → xs.all flatP = true → vs = xs.map toV ∧ vs.all flatV = true
  | [], _, r, _ => by unfold RepL at r; rw [r]; exact ⟨rfl, rfl⟩
  | x :: xs, _, r, h => by
    unfold RepL at r
    obtain ⟨v, ws, rfl, h1, h2⟩ := r
    rw [List.all_cons, Bool.and_eq_true] at h
    obtain ⟨e1, f1⟩ := toV_rep h1 h.1
    obtain ⟨e2, f2⟩ := toVL_rep h2 h.2
    exact ⟨by rw [List.map_cons, ← e1, ← e2], by rw [List.all_cons, f1, f2]; rfl⟩
theorem sn_in (neg : Bool) : Snd (gm X T) (rIn X.K neg) (fIn neg) := by
  intro W σ m S H x y v u Q hS rx ry p
  unfold fIn at p
  split at p
  · rename_i xs e
    split at p
    · rename_i h
      obtain ⟨a, vs, rfl, h1, h2⟩ := seqOf_rep hS ry e
      obtain ⟨e1, f1⟩ := toV_rep rx h.1
      obtain ⟨e2, f2⟩ := toVL_rep h2 h.2
      refine ⟨a, vs, rfl, h1, f1, f2, ?_⟩
      have q : inV v vs = inP x xs := by
        rw [e1, e2]
        unfold inV inP
        rw [List.any_map]
        rfl
      cases neg with
      | false => rw [if_neg Bool.false_ne_true, q]; exact p.here hS (mk_bl _)
      | true => rw [if_pos rfl, q]; exact p.here hS (mk_bl _)
    · exact p.elim
  · exact p.elim
end

/-! ### and, or, not, if -/
def dAnd (da db : EnP → Sto → Res PV) : EnP → Sto → Res PV := fun ρ S => (da ρ S).bind fun x S1 => match x with
  | .bl true => db ρ S1
  | .bl false => .ok (.bl false) S1
  | _ => .bad
def dOr (da db : EnP → Sto → Res PV) : EnP → Sto → Res PV := fun ρ S => (da ρ S).bind fun x S1 => match x with
  | .bl true => .ok (.bl true) S1
  | .bl false => db ρ S1
  | _ => .bad
def dNot (da : EnP → Sto → Res PV) : EnP → Sto → Res PV := fun ρ S => (da ρ S).bind fun x S1 => match x with
  | .bl b => .ok (.bl (!b)) S1
  | _ => .bad
def bAnd (da db : EnP → Sto → Res Bool) : EnP → Sto → Res Bool := fun ρ S => (da ρ S).bind fun x S1 => if x = true then db ρ S1 else .ok false S1
def bOr (da db : EnP → Sto → Res Bool) : EnP → Sto → Res Bool := fun ρ S => (da ρ S).bind fun x S1 => if x = true then .ok true S1 else db ρ S1
def bNot (da : EnP → Sto → Res Bool) : EnP → Sto → Res Bool := fun ρ S => (da ρ S).bind fun x S1 => .ok (!x) S1
def dIf (dc : EnP → Sto → Res Bool) (da db : EnP → Sto → Res PV) : EnP → Sto → Res PV := fun ρ S => (dc ρ S).bind fun x S1 => if x = true then da ρ S1 else db ρ S1
section
variable {X : Cx} {T : Tb} {W : WX} {pos : Pos} {a b c : Expr} {rest : List Expr} {da db dc : EnP → Sto → Res PV} {ea eb : EnP → Sto → Res Bool}
theorem ce_one {op} (h : CE X T W a da) : CE X T W (.BoolOp op [a] pos) da := pe_one h
theorem ce_and (ha : CE X T W a da) (hb : CE X T W (.BoolOp .And (b :: rest) pos) db) : CE X T W (.BoolOp .And (a :: b :: rest) pos) (dAnd da db) :=
  pe_imp (pe_and ha hb) fun σ H Q ⟨ρ, S, m, hE, hS, p⟩ => tr_bind (f := fun (x : PV) (ρ : EnP) (S1 : Sto) => match x with | .bl true => db ρ S1 | .bl false => .ok (.bl false) S1 | _ => .bad) hE hS p fun x S1 m1 H1 w s1 hE1 hS1 hr1 p1 => by
    cases x with
    | bl k =>
      refine ⟨k, rep_bl hr1, ?_⟩
      cases k with
      | true => rw [if_pos rfl]; exact ⟨ρ, S1, m1, hE1, hS1, p1⟩
      | false => rw [if_neg Bool.false_ne_true]; exact PostR.here (a := PV.bl false) p1 hS1 (mk_bl _)
    | _ => exact p1.elim
theorem ce_or (ha : CE X T W a da) (hb : CE X T W (.BoolOp .Or (b :: rest) pos) db) : CE X T W (.BoolOp .Or (a :: b :: rest) pos) (dOr da db) :=
  pe_imp (pe_or ha hb) fun σ H Q ⟨ρ, S, m, hE, hS, p⟩ => tr_bind (f := fun (x : PV) (ρ : EnP) (S1 : Sto) => match x with | .bl true => .ok (.bl true) S1 | .bl false => db ρ S1 | _ => .bad) hE hS p fun x S1 m1 H1 w s1 hE1 hS1 hr1 p1 => by
    cases x with
    | bl k =>
      refine ⟨k, rep_bl hr1, ?_⟩
      cases k with
      | true => rw [if_pos rfl]; exact PostR.here (a := PV.bl true) p1 hS1 (mk_bl _)
      | false => rw [if_neg Bool.false_ne_true]; exact ⟨ρ, S1, m1, hE1, hS1, p1⟩
    | _ => exact p1.elim
theorem ce_not (ha : CE X T W a da) : CE X T W (.UnaryOp .Not a pos) (dNot da) :=
  pe_imp (pe_not ha) fun σ H Q ⟨ρ, S, m, hE, hS, p⟩ => tr_bind (f := fun (x : PV) (ρ : EnP) (S1 : Sto) => match x with | .bl b => Res.ok (PV.bl (!b)) S1 | _ => .bad) hE hS p fun x S1 m1 H1 w s1 hE1 hS1 hr1 p1 => by
    cases x with
    | bl k => exact ⟨k, rep_bl hr1, PostR.here (a := PV.bl (!k)) p1 hS1 (mk_bl _)⟩
    | _ => exact p1.elim
theorem cw_and1 (ha : CT X T W a ea) : CW X T W (.BoolOp .And [a] pos) ea := pw_and1 ha
theorem cw_or1 (ha : CT X T W a ea) : CW X T W (.BoolOp .Or [a] pos) ea := pw_or1 ha
theorem cw_and (ha : CT X T W a ea) (hb : CW X T W (.BoolOp .And (b :: rest) pos) eb) : CW X T W (.BoolOp .And (a :: b :: rest) pos) (bAnd ea eb) :=
  pw_imp (pw_and ha hb) fun σ H Q ⟨ρ, S, m, hE, hS, p⟩ => tr_bind (f := fun x ρ S1 => if x = true then eb ρ S1 else .ok false S1) hE hS p fun x S1 m1 H1 w s1 hE1 hS1 hr1 p1 => by
    cases hr1
    cases x with
    | true => rw [if_pos rfl] at p1 ⊢; exact ⟨ρ, S1, m1, hE1, hS1, p1⟩
    | false => rw [if_neg Bool.false_ne_true] at p1 ⊢; exact PostR.here (a := false) p1 hS1 rfl
theorem cw_or (ha : CT X T W a ea) (hb : CW X T W (.BoolOp .Or (b :: rest) pos) eb) : CW X T W (.BoolOp .Or (a :: b :: rest) pos) (bOr ea eb) :=
  pw_imp (pw_or ha hb) fun σ H Q ⟨ρ, S, m, hE, hS, p⟩ => tr_bind (f := fun x ρ S1 => if x = true then .ok true S1 else eb ρ S1) hE hS p fun x S1 m1 H1 w s1 hE1 hS1 hr1 p1 => by
    cases hr1
    cases x with
    | true => rw [if_pos rfl] at p1 ⊢; exact PostR.here (a := true) p1 hS1 rfl
    | false => rw [if_neg Bool.false_ne_true] at p1 ⊢; exact ⟨ρ, S1, m1, hE1, hS1, p1⟩
theorem ct_w (h : CW X T W a ea) : CT X T W a ea := h.pt
theorem ct_not (ha : CT X T W a ea) : CT X T W (.UnaryOp .Not a pos) (bNot ea) :=
  pt_imp (pt_not ha) fun σ H Q ⟨ρ, S, m, hE, hS, p⟩ => tr_bind (f := fun x ρ S1 => .ok (!x) S1) hE hS p fun x S1 m1 H1 w s1 hE1 hS1 hr1 p1 => by
    cases hr1
    exact PostR.here (a := !x) p1 hS1 rfl
theorem ce_if (hc : CT X T W c ea) (ha : CE X T W a da) (hb : CE X T W b db) : CE X T W (.IfExp c a b pos) (dIf ea da db) :=
  pe_imp (pe_ifExp hc ha hb) fun σ H Q ⟨ρ, S, m, hE, hS, p⟩ => tr_bind (f := fun x ρ S1 => if x = true then da ρ S1 else db ρ S1) hE hS p fun x S1 m1 H1 w s1 hE1 hS1 hr1 p1 => by
    cases hr1
    cases x with
    | true => rw [if_pos rfl] at p1 ⊢; exact ⟨ρ, S1, m1, hE1, hS1, p1⟩
    | false => rw [if_neg Bool.false_ne_true] at p1 ⊢; exact ⟨ρ, S1, m1, hE1, hS1, p1⟩
/-- a op1 b op2 c -/
def dChain (f f' : PV → PV → Sto → Res PV) (da db dc : EnP → Sto → Res PV) : EnP → Sto → Res PV := fun ρ S => (da ρ S).bind fun x S1 => (db ρ S1).bind fun y S2 => (f x y S2).bind fun z S3 => match z with
  | .bl true => (dc ρ S3).bind fun w S4 => f' y w S4
  | .bl false => .ok (.bl false) S3
  | _ => .bad
theorem chain_of {f f' : PV → PV → Sto → Res PV} {r r' : R2} (hs : Snd (gm X T) r f) (hs' : Snd (gm X T) r' f') {σ : L2.St} {H : Hp} {Q : VK} (h : tv (gm X T) W (dChain f f' da db dc) σ H Q) :
    tChain r r' (tv (gm X T) W da) (tv (gm X T) W db) (tv (gm X T) W dc) σ H Q := by
  obtain ⟨ρ, S, m, hE, hS, p⟩ := h
  refine tr_bind (f := fun x ρ S1 => (db ρ S1).bind fun y S2 => (f x y S2).bind fun z S3 => match z with
    | .bl true => (dc ρ S3).bind fun w S4 => f' y w S4
    | .bl false => .ok (.bl false) S3
    | _ => .bad) hE hS p fun x S1 m1 H1 w s1 hE1 hS1 hr1 p1 => ?_
  refine tr_bind (f := fun y ρ S2 => (f x y S2).bind fun z S3 => match z with
    | .bl true => (dc ρ S3).bind fun w S4 => f' y w S4
    | .bl false => .ok (.bl false) S3
    | _ => .bad) hE1 hS1 p1 fun y S2 m2 H2 w2 s2 hE2 hS2 hr2 p2 => ?_
  refine hs W σ m2 S2 H2 x y w w2 _ hS2 (hr1.step s2) hr2 ?_
  cases e : f x y S2 with
  | bad => rw [e] at p2; exact p2.elim
  | exc c fs S3 => rw [e] at p2; exact fun m' H' cls dd s h1 h2 => p2 m' H' cls dd s h1 h2
  | ok z S3 =>
    rw [e] at p2
    intro m3 H3 w3 s3 hS3 hr3
    cases z with
    | bl k =>
      refine ⟨k, rep_bl hr3, ?_⟩
      cases k with
      | true =>
        rw [if_pos rfl]
        have p3 : PostV (gm X T) W σ m2 H2 Q ((dc ρ S3).bind fun w S4 => f' y w S4) := p2
        exact tr_bind (f := fun w ρ S4 => f' y w S4) (hE2.step s3) hS3 (PostR.step s3 p3) fun z S4 m4 H4 w4 s4 hE4 hS4 hr4 p4 => hs' W σ m4 S4 H4 y z w2 w4 Q hS4 (hr2.step (s3.trans s4)) hr4 p4
      | false =>
        rw [if_neg Bool.false_ne_true]
        have p3 : PostV (gm X T) W σ m2 H2 Q (.ok (.bl false) S3) := p2
        exact p3 m3 H3 (.bl false) s3 hS3 (mk_bl _)
    | _ => exact p2.elim
theorem ce_chain {op op' : CmpOp} {f f' : PV → PV → Sto → Res PV} {r r' : R2} (ho : OpR X (compareOp op) r) (hs : Snd (gm X T) r f) (ho' : OpR X (compareOp op') r') (hs' : Snd (gm X T) r' f') (ha : CE X T W a da) (hb : CE X T W b db) (hc : CE X T W c dc)
    (hm : lastMarks [op, op'] [b, c] = false := by with_unfolding_all rfl) : CE X T W (.Compare a [op, op'] [b, c] pos) (dChain f f' da db dc) :=
  pe_imp (pe_chain ho ho' ha hb hc hm) fun σ H Q h => chain_of hs hs' h
theorem ct_chain {op op' : CmpOp} {f f' : PV → PV → Sto → Res PV} {r r' : R2} (ho : OpR X (compareOp op) r) (hs : Snd (gm X T) r f) (ho' : OpR X (compareOp op') r') (hs' : Snd (gm X T) r' f') (ha : CE X T W a da) (hb : CE X T W b db) (hc : CE X T W c dc)
    (hm : lastMarks [op, op'] [b, c] = false := by with_unfolding_all rfl) : CT X T W (.Compare a [op, op'] [b, c] pos) (dB (dChain f f' da db dc)) :=
  pt_imp (pt_chain ho ho' ha hb hc hm) fun σ H Q ⟨ρ, S, m, hE, hS, p⟩ => chain_of hs hs' ⟨ρ, S, m, hE, hS, asB_post p⟩
/-- a value's truth -/
def truP (x : PV) (S : Sto) : Option Bool := match x with
  | .non => some false
  | .bl b => some b
  | .int i => some (i != 0)
  | .str s => if s.length ≤ lim then some ((s.length : Int) != 0) else none
  | x => match seqOf x S with
    | some xs => some (!xs.isEmpty)
    | none => none
def dTru (da : EnP → Sto → Res PV) : EnP → Sto → Res Bool := fun ρ S => (da ρ S).bind fun x S1 => match truP x S1 with
  | some b => .ok b S1
  | none => .bad
theorem truP_rep {g : Gm} {m : Mm} {S : Sto} {H : Hp} {x : PV} {v : V} {k : Bool} (hS : RelS g m S H) (r : Rep g m H x v) (e : truP x S = some k) : TruV g.K v H k := by
  have sq : (match seqOf x S with | some xs => some (!xs.isEmpty) | none => none) = some k → TruV g.K v H k := fun e => by
    cases q : seqOf x S with
    | none => rw [q] at e; cases e
    | some xs =>
      rw [q] at e
      obtain ⟨a, vs, rfl, h1, h2⟩ := seqOf_rep hS r q
      have z : (!xs.isEmpty) = k := Option.some.inj e
      have z2 : xs.isEmpty = vs.isEmpty := by
        have l := h2.length
        cases xs <;> cases vs <;> first | rfl | cases l
      rw [z2] at z
      rcases h1 with h1 | h1
      · exact .inl ⟨vs, h1, z.symm⟩
      · exact .inr (.inl ⟨vs, h1, z.symm⟩)
  cases x with
  | non => rw [rep_non r]; cases e; rfl
  | bl b => rw [rep_bl r]; cases e; rfl
  | int i => rw [rep_int r]; cases e; rfl
  | str s =>
    rw [rep_str r]
    simp only [truP] at e
    split at e
    · rename_i h
      cases e
      exact ⟨lim_line h, rfl⟩
    · cases e
  | _ => exact sq e
theorem ct_tru (ha : CE X T W a da) (he : ∀ whole, isTrue a X.env whole = (do let v ← whole; standAt a.pos; holding [v] (truthy v)) := by intro _; rfl) : CT X T W a (dTru da) :=
  pt_imp (pt_truth ha he) fun σ H Q ⟨ρ, S, m, hE, hS, p⟩ => tr_bind (f := fun x ρ S1 => match truP x S1 with | some b => .ok b S1 | none => .bad) hE hS p fun x S1 m1 H1 w s1 hE1 hS1 hr1 p1 => by
    cases e : truP x S1 with
    | none => rw [e] at p1; exact p1.elim
    | some k => rw [e] at p1; exact ⟨k, truP_rep hS1 hr1 e, PostR.here (a := k) p1 hS1 rfl⟩
end
end Mi
end
section
set_option Elab.async false
set_option linter.all false
set_option maxRecDepth 100000
set_option maxHeartbeats 2000000
namespace Mi
open PySem PySem.Spec PyProof.Rows L2

/-! ### arguments, displays -/
def dNil : EnP → Sto → Res (List PV) := fun _ S => .ok [] S
def dCons (da : EnP → Sto → Res PV) (dr : EnP → Sto → Res (List PV)) : EnP → Sto → Res (List PV) := fun ρ S => (da ρ S).bind fun x S1 => (dr ρ S1).bind fun xs S2 => .ok (x :: xs) S2
def dTup (dl : EnP → Sto → Res (List PV)) : EnP → Sto → Res PV := fun ρ S => (dl ρ S).bind fun xs S1 => mkTup xs S1
def dLst (mt : Bool) (dl : EnP → Sto → Res (List PV)) : EnP → Sto → Res PV := fun ρ S => (dl ρ S).bind fun xs S1 => mkLst mt xs S1
/-- a call of what is known, by values -/
def dCB (f : List PV → Sto → Res PV) (dl : EnP → Sto → Res (List PV)) : EnP → Sto → Res PV := fun ρ S => (dl ρ S).bind fun xs S1 => f xs S1
def SndL (g : Gm) (r : List V → Hp → VK → Prop) (f : List PV → Sto → Res PV) : Prop :=
  ∀ (W : WX) (σ : L2.St) (m : Mm) (S : Sto) (H : Hp) (xs : List PV) (vs : List V) (Q : VK), RelS g m S H → RepL g m H xs vs → PostV g W σ m H Q (f xs S) → r vs H Q
section
variable {X : Cx} {T : Tb} {W : WX} {pos : Pos} {e : Expr} {es : List Expr} {da db : EnP → Sto → Res PV} {dl : EnP → Sto → Res (List PV)}
theorem ca_nil : CA X T W [] dNil := pa_imp pa_nil fun σ H Q ⟨ρ, S, m, hE, hS, p⟩ => PostR.here (a := ([] : List PV)) p hS RepL.nil
theorem ca_cons (ha : CE X T W e da) (hr : CA X T W es dl) (hs : starEach (e :: es) X.env = (false, eval e X.env) :: starEach es X.env := by rfl) : CA X T W (e :: es) (dCons da dl) :=
  pa_imp (pa_cons ha hr hs) fun σ H Q ⟨ρ, S, m, hE, hS, p⟩ => tr_bind (f := fun (x : PV) ρ S1 => (dl ρ S1).bind fun xs S2 => Res.ok (x :: xs) S2) hE hS p fun x S1 m1 H1 w s1 hE1 hS1 hr1 p1 =>
    tr_bind (f := fun (xs : List PV) _ S2 => Res.ok (x :: xs) S2) hE1 hS1 p1 fun xs S2 m2 H2 ws s2 hE2 hS2 hr2 p2 => PostR.here (a := x :: xs) p2 hS2 (RepL.cons (hr1.step s2) hr2)
theorem ce_tup {k : Nat} (h : CA X T W es dl) : CE X T W (.Tuple es k pos) (dTup dl) :=
  pe_imp (pe_tup h) fun σ H Q ⟨ρ, S, m, hE, hS, p⟩ => tr_bind (f := fun xs _ S1 => mkTup xs S1) hE hS p fun xs S1 m1 H1 ws s1 hE1 hS1 hr1 p1 => new_tup hS1 hr1 p1
theorem ce_lst (mt : Bool) (hb : mt = true → Bare (gm X T)) (h : CA X T W es dl) : CE X T W (.List es pos) (dLst mt dl) :=
  pe_imp (pe_lst h) fun σ H Q ⟨ρ, S, m, hE, hS, p⟩ => tr_bind (f := fun xs _ S1 => mkLst mt xs S1) hE hS p fun xs S1 m1 H1 ws s1 hE1 hS1 hr1 p1 => new_lst hb hS1 hr1 p1
theorem cb_of {f : List PV → Sto → Res PV} {r : List V → Hp → VK → Prop} (hs : SndL (gm X T) r f) {σ : L2.St} {H : Hp} {Q : VK} (h : tv (gm X T) W (dCB f dl) σ H Q) : tCB r (tl (gm X T) W dl) σ H Q := by
  obtain ⟨ρ, S, m, hE, hS, p⟩ := h
  exact tr_bind (f := fun xs _ S1 => f xs S1) hE hS p fun xs S1 m1 H1 ws s1 hE1 hS1 hr1 p1 => hs W σ m1 S1 H1 xs ws Q hS1 hr1 p1
theorem ce_callB {f : List PV → Sto → Res PV} {r : List V → Hp → VK → Prop} {x : Str} {id : String} {p : Pos} (hc : CallR X (.builtin id) r) (hs : SndL (gm X T) r f) (hg : Gl X x) (hm : X.mg x = none) (hv : bootBuiltins x = some (.builtin id)) (ha : CA X T W (e :: es) dl)
    (hn : x ≠ "__name__" := by decide) (hdb : (x == ("__debug__" : Str)) = false := by decide) (he : starEach (e :: es) X.env = (false, eval e X.env) :: starEach es X.env := by rfl) (hpl : (backTo pos (starEach es X.env)).any (·.1) = false := by rfl) :
    CE X T W (.Call (.Name x p) (e :: es) [] pos) (dCB f dl) := pe_imp (pe_callB hc hg hm hv ha hn hdb he hpl) fun σ H Q h => cb_of hs h
theorem ce_callTy {f : List PV → Sto → Res PV} {r : List V → Hp → VK → Prop} {x : Str} {ty : String} {p : Pos} (hc : CallR X (.type ty) r) (hs : SndL (gm X T) r f) (hg : Gl X x) (hm : X.mg x = none) (hv : bootBuiltins x = some (.type ty)) (ha : CA X T W (e :: es) dl)
    (hn : x ≠ "__name__" := by decide) (hdb : (x == ("__debug__" : Str)) = false := by decide) (he : starEach (e :: es) X.env = (false, eval e X.env) :: starEach es X.env := by rfl) (hpl : (backTo pos (starEach es X.env)).any (·.1) = false := by rfl) :
    CE X T W (.Call (.Name x p) (e :: es) [] pos) (dCB f dl) := pe_imp (pe_callTy hc hg hm hv ha hn hdb he hpl) fun σ H Q h => cb_of hs h
end

/-! ### subscripts, slices -/
def fIx : PV → PV → Sto → Res PV
  | .str s, .int i, S => match atI s.cps.toList i with
    | some c => if s.length ≤ lim then .ok (.str ⟨#[c]⟩) S else .bad
    | none => .bad
  | x, .int i, S => match seqOf x S with
    | some xs => (match atI xs i with
      | some v => .ok v S
      | none => .bad)
    | none => .bad
  | _, _, _ => .bad
def cutP (xs : List PV) (lo hi : Option Int) : List PV := (xs.drop (HT.sIx xs.length 0 lo)).take (HT.sIx xs.length xs.length hi - HT.sIx xs.length 0 lo)
def fSl (mt : Bool) (x : PV) (lo hi : Option Int) (S : Sto) : Res PV := match x with
  | .tup xs => mkTup (cutP xs lo hi) S
  | .str s => if s.length ≤ lim then .ok (.str (cutS s lo hi)) S else .bad
  | x => match lstOf x S with
    | some xs => mkLst mt (cutP xs lo hi) S
    | none => .bad
def dNoPart : EnP → Sto → Res (Option Int) := fun _ S => .ok none S
def dPart (d : EnP → Sto → Res PV) : EnP → Sto → Res (Option Int) := fun ρ S => (d ρ S).bind fun x S1 => match x with
  | .int i => .ok (some i) S1
  | _ => .bad
def dSl (mt : Bool) (d : EnP → Sto → Res PV) (lo hi : EnP → Sto → Res (Option Int)) : EnP → Sto → Res PV := fun ρ S => (d ρ S).bind fun x S1 => (lo ρ S1).bind fun l S2 => (hi ρ S2).bind fun h S3 => fSl mt x l h S3
abbrev tpart (g : Gm) (W : WX) (d : EnP → Sto → Res (Option Int)) : TO := tr g W (fun _ _ a b => a = b) d
abbrev CO (X : Cx) (T : Tb) (W : WX) (e : Option Expr) (d : EnP → Sto → Res (Option Int)) : Prop := PO X e (tpart (gm X T) W d)
theorem po_imp {X : Cx} {e : Option Expr} {t t' : TO} (h : PO X e t) (w : ∀ σ H Q, t' σ H Q → t σ H Q) : PO X e t' := ⟨fun pins s σ H Q I q => h.run pins s σ H Q I (w σ H Q q)⟩
theorem atI_rep {g : Gm} {m : Mm} {H : Hp} {xs : List PV} {vs : List V} {i : Int} {x : PV} (r : RepL g m H xs vs) (h : atI xs i = some x) : ∃ v, atI vs i = some v ∧ Rep g m H x v := by
  unfold atI at h ⊢
  rw [← r.length]
  cases e : ixN xs.length i with
  | none => rw [e] at h; cases h
  | some j =>
    rw [e] at h
    exact r.get h
section
variable {X : Cx} {T : Tb} {W : WX} {pos p2 : Pos} {a b : Expr} {lo hi : Option Expr} {da db : EnP → Sto → Res PV} {dlo dhi : EnP → Sto → Res (Option Int)}
theorem sn_ix : Snd (gm X T) (rIx X.K) fIx := by
  intro W σ m S H x y v u Q hS rx ry p
  unfold fIx at p
  split at p
  · cases rep_str rx
    cases rep_int ry
    split at p
    · rename_i c e
      split at p
      · rename_i h
        exact .inr (.inr ⟨_, _, c, rfl, rfl, lim_line h, e, p.here hS (mk_str _)⟩)
      · exact p.elim
    · exact p.elim
  · cases rep_int ry
    split at p
    · rename_i xs e
      split at p
      · rename_i z e2
        obtain ⟨a, vs, rfl, h1, h2⟩ := seqOf_rep hS rx e
        obtain ⟨w, e3, r3⟩ := atI_rep h2 e2
        rcases h1 with h1 | h1
        · exact .inl ⟨a, vs, _, w, rfl, rfl, h1, e3, p.here hS r3⟩
        · exact .inr (.inl ⟨a, vs, _, w, rfl, rfl, h1, e3, p.here hS r3⟩)
      · exact p.elim
    · exact p.elim
  · exact p.elim
theorem ce_ix (ha : CE X T W a da) (hb : CE X T W b db) (hs : PlainIx b) : CE X T W (.Subscript a b pos) (dBin fIx da db) := pe_imp (pe_ix ix_seq ha hb hs) fun σ H Q h => two_of sn_ix h
theorem co_none : CO X T W none dNoPart := po_imp po_none fun σ H Q ⟨ρ, S, m, hE, hS, p⟩ => PostR.here (a := (none : Option Int)) p hS rfl
theorem co_some (h : CE X T W a da) : CO X T W (some a) (dPart da) :=
  po_imp (po_some h) fun σ H Q ⟨ρ, S, m, hE, hS, p⟩ => tr_bind (f := fun (x : PV) (ρ : EnP) (S1 : Sto) => match x with | .int i => Res.ok (some i) S1 | _ => .bad) hE hS p fun x S1 m1 H1 w s1 hE1 hS1 hr1 p1 => by
    cases x with
    | int i => exact ⟨i, rep_int hr1, PostR.here (a := some i) p1 hS1 rfl⟩
    | _ => exact p1.elim
def rSlM (K : PySem.W.Frag) : V → Option Int → Option Int → Hp → VK → Prop := fun x lo hi H Q => (rSlL K x lo hi H Q ∨ rSlA K x lo hi H Q) ∨ rSlS x lo hi H Q
theorem sl_M : SlR X (rSlM X.K) := (sl_list.or sl_tupA).or sl_str
theorem cutP_rep {g : Gm} {m : Mm} {H : Hp} {xs : List PV} {vs : List V} (r : RepL g m H xs vs) (lo hi : Option Int) : RepL g m H (cutP xs lo hi) (cutV vs lo hi) := by
  unfold cutP cutV
  rw [← r.length]
  exact (r.drop _).take _
theorem sn_sl (mt : Bool) {g : Gm} (hb : mt = true → Bare g) {W : WX} {σ : L2.St} {m : Mm} {S : Sto} {H : Hp} {x : PV} {v : V} {l h : Option Int} {Q : VK} (hS : RelS g m S H) (rx : Rep g m H x v) (p : PostV g W σ m H Q (fSl mt x l h S)) : rSlM g.K v l h H Q := by
  have lst : PostV g W σ m H Q (match lstOf x S with | some xs => mkLst mt (cutP xs l h) S | none => .bad) → rSlM g.K v l h H Q := fun p => by
    cases e : lstOf x S with
    | none => rw [e] at p; exact p.elim
    | some xs =>
      rw [e] at p
      obtain ⟨a, vs, rfl, h1, h2⟩ := lstOf_rep hS rx e
      exact .inl (.inl ⟨a, vs, rfl, h1, (new_lst hb hS (cutP_rep h2 l h) p).2⟩)
  cases x with
  | tup xs =>
    have p : PostV g W σ m H Q (mkTup (cutP xs l h) S) := p
    obtain ⟨a, vs, rfl, h1, h2⟩ := tup_rep rx
    refine .inl (.inr ⟨a, vs, rfl, h1, fun ⟨z1, z2⟩ => ?_, fun _ => (new_tup hS (cutP_rep h2 l h) p).2⟩)
    have e : cutP xs l h = xs := by
      unfold cutP
      rw [h2.length, z1, z2, ← h2.length]
      simp
    rw [e] at p
    unfold mkTup at p
    split at p
    · exact p.here hS rx
    · exact p.elim
  | str s =>
    rw [rep_str rx]
    simp only [fSl] at p
    split at p
    · rename_i z
      exact .inr ⟨s, rfl, lim_line z, p.here hS (mk_str _)⟩
    · exact p.elim
  | _ => exact lst p
theorem ce_sl (mt : Bool) (hb : mt = true → Bare (gm X T)) (ha : CE X T W a da) (hl : CO X T W lo dlo) (hu : CO X T W hi dhi) : CE X T W (.Subscript a (.Slice lo hi none p2) pos) (dSl mt da dlo dhi) :=
  pe_imp (pe_slice sl_M ha hl hu) fun σ H Q ⟨ρ, S, m, hE, hS, p⟩ =>
    tr_bind (f := fun (x : PV) (ρ : EnP) (S1 : Sto) => (dlo ρ S1).bind fun l S2 => (dhi ρ S2).bind fun h S3 => fSl mt x l h S3) hE hS p fun x S1 m1 H1 w s1 hE1 hS1 hr1 p1 =>
    tr_bind (f := fun (l : Option Int) (ρ : EnP) (S2 : Sto) => (dhi ρ S2).bind fun h S3 => fSl mt x l h S3) hE1 hS1 p1 fun l S2 m2 H2 l' s2 hE2 hS2 hr2 p2 =>
    tr_bind (f := fun (h : Option Int) (ρ : EnP) (S3 : Sto) => fSl mt x l h S3) hE2 hS2 p2 fun h S3 m3 H3 h' s3 hE3 hS3 hr3 p3 => by
      cases hr2
      cases hr3
      exact sn_sl mt hb hS3 (hr1.step (s2.trans s3)) p3
end

/-! ### built-ins -/
def fLen : List PV → Sto → Res PV
  | [x], S => (match x with
    | .str s => if s.length ≤ lim then .ok (.int s.length) S else .bad
    | x => match seqOf x S with
      | some xs => .ok (.int xs.length) S
      | none => .bad)
  | _, _ => .bad
def fAbs : List PV → Sto → Res PV
  | [.int i], S => .ok (.int (if i < 0 then -i else i)) S
  | _, _ => .bad
def fInt : List PV → Sto → Res PV
  | [.int i], S => .ok (.int i) S
  | [.bl k], S => .ok (.int (if k then 1 else 0)) S
  | _, _ => .bad
def fIntS : List PV → Sto → Res PV
  | [.str a], S => (match PySem.intText? a with
    | some n => if a.length ≤ 640 then .ok (.int n) S else .bad
    | none => .bad)
  | _, _ => .bad
def blsOf : List PV → Option (List Bool)
  | [] => some []
  | .bl b :: r => (match blsOf r with
    | some bs => some (b :: bs)
    | none => none)
  | _ :: _ => none
def fAll : List PV → Sto → Res PV
  | [x], S => (match lstOf x S with
    | some xs => (match blsOf xs with
      | some bs => .ok (.bl (bs.all id)) S
      | none => .bad)
    | none => .bad)
  | _, _ => .bad
def fAny : List PV → Sto → Res PV
  | [x], S => (match lstOf x S with
    | some xs => (match blsOf xs with
      | some bs => .ok (.bl (bs.any id)) S
      | none => .bad)
    | none => .bad)
  | _, _ => .bad
def fTuple : List PV → Sto → Res PV
  | [.tup xs], S => .ok (.tup xs) S
  | [x], S => (match lstOf x S with
    | some xs => if xs.length ≤ lim then .ok (.tup xs) S else .bad
    | none => .bad)
  | _, _ => .bad
def fList (mt : Bool) : List PV → Sto → Res PV
  | [x], S => (match seqOf x S with
    | some xs => mkLst mt xs S
    | none => .bad)
  | _, _ => .bad
def fMax : List PV → Sto → Res PV
  | [.int i, .int j], S => .ok (.int (if j > i then j else i)) S
  | _, _ => .bad
def fMin : List PV → Sto → Res PV
  | [.int i, .int j], S => .ok (.int (if j < i then j else i)) S
  | _, _ => .bad
def tyName : PV → Sto → Option String
  | .non, _ => some "NoneType"
  | .bl _, _ => some "bool"
  | .int _, _ => some "int"
  | .str _, _ => some "str"
  | .tup _, _ => some "tuple"
  | .ct _, _ => some "tuple"
  | .nd _ _, _ => some "dict"
  | x, S => match lstT x S with
    | some _ => some "list"
    | none => none
def fIsi : List PV → Sto → Res PV
  | [x, .ty n], S => (match tyName x S with
    | some a => (match kitB a n with
      | some b => .ok (.bl b) S
      | none => .bad)
    | none => .bad)
  | _, _ => .bad
/-- repr of data -/
def fRepr : List PV → Sto → Res PV
  | [x], S => (match toDS x S with
    | some d => if d.showable = true ∧ d.depth ≤ 64 ∧ d.shown.length ≤ lim then .ok (.str d.shown) S else .bad
    | none => .bad)
  | _, _ => .bad
def fStrI : List PV → Sto → Res PV
  | [.int i], S => if i.natAbs.log2 < 1920 then .ok (.str (toString i)) S else .bad
  | _, _ => .bad
section
variable {X : Cx} {T : Tb}
theorem one_rep {g : Gm} {m : Mm} {H : Hp} {x : PV} {vs : List V} (r : RepL g m H [x] vs) : ∃ v, vs = [v] ∧ Rep g m H x v := by
  unfold RepL at r
  obtain ⟨v, ws, rfl, h, r⟩ := r
  unfold RepL at r
  subst r
  exact ⟨v, rfl, h⟩
theorem two_rep {g : Gm} {m : Mm} {H : Hp} {x y : PV} {vs : List V} (r : RepL g m H [x, y] vs) : ∃ v u, vs = [v, u] ∧ Rep g m H x v ∧ Rep g m H y u := by
  unfold RepL at r
  obtain ⟨v, ws, rfl, h, r⟩ := r
  obtain ⟨u, rfl, h2⟩ := one_rep r
  exact ⟨v, u, rfl, h, h2⟩
theorem sl_len : SndL (gm X T) (fun xs H Q => ∃ x n, xs = [x] ∧ LenV X.K x H n ∧ Q (.int n) H) fLen := by
  intro W σ m S H xs vs Q hS r p
  unfold fLen at p
  split at p
  · rename_i x
    obtain ⟨v, rfl, rx⟩ := one_rep r
    have sq : PostV (gm X T) W σ m H Q (match seqOf x S with | some xs => .ok (.int xs.length) S | none => .bad) → ∃ y n, [v] = [y] ∧ LenV X.K y H n ∧ Q (.int n) H := fun p => by
      cases e : seqOf x S with
      | none => rw [e] at p; exact p.elim
      | some xs =>
        rw [e] at p
        obtain ⟨a, ws, rfl, h1, h2⟩ := seqOf_rep hS rx e
        refine ⟨.ref a, xs.length, rfl, ?_, p.here hS (mk_int _)⟩
        rcases h1 with h1 | h1
        · exact .inl ⟨ws, h1, h2.length⟩
        · exact .inr ⟨ws, h1, h2.length⟩
    cases x with
    | str s =>
      rw [rep_str rx]
      have p : PostV (gm X T) W σ m H Q (if s.length ≤ lim then .ok (.int s.length) S else .bad) := p
      split at p
      · rename_i h
        exact ⟨_, _, rfl, ⟨lim_line h, rfl⟩, p.here hS (mk_int _)⟩
      · exact p.elim
    | _ => exact sq p
  · exact p.elim
theorem sl_abs : SndL (gm X T) (fun xs H Q => ∃ i, xs = [.int i] ∧ Q (.int (if i < 0 then -i else i)) H) fAbs := by
  intro W σ m S H xs vs Q hS r p
  unfold fAbs at p
  split at p
  · obtain ⟨v, rfl, rx⟩ := one_rep r
    cases rep_int rx
    exact ⟨_, rfl, p.here hS (mk_int _)⟩
  · exact p.elim
theorem sl_int : SndL (gm X T) (fun xs H Q => (∃ i, xs = [.int i] ∧ Q (.int i) H) ∨ ∃ k, xs = [.bl k] ∧ Q (.int (if k then 1 else 0)) H) fInt := by
  intro W σ m S H xs vs Q hS r p
  unfold fInt at p
  split at p
  · obtain ⟨v, rfl, rx⟩ := one_rep r
    cases rep_int rx
    exact .inl ⟨_, rfl, p.here hS (mk_int _)⟩
  · obtain ⟨v, rfl, rx⟩ := one_rep r
    cases rep_bl rx
    exact .inr ⟨_, rfl, p.here hS (mk_int _)⟩
  · exact p.elim
theorem bls_rep {g : Gm} {m : Mm} {H : Hp} : ∀ {xs : List PV} {vs : List V} {bs : List Bool}, RepL g m H xs vs → blsOf xs = some bs → vs = bs.map V.bl
  | [], vs, bs, r, e => by unfold RepL at r; unfold blsOf at e; cases e; rw [r]; rfl
  | x :: xs, vs, bs, r, e => by
    unfold RepL at r
    obtain ⟨v, ws, rfl, h1, h2⟩ := r
    cases x with
    | bl b =>
      simp only [blsOf] at e
      split at e
      · rename_i bs' e'
        cases e
        rw [rep_bl h1, bls_rep h2 e']
        rfl
      · cases e
    | _ => cases e
theorem sl_all : SndL (gm X T) (rAll X.K) fAll := by
  intro W σ m S H xs vs Q hS r p
  unfold fAll at p
  split at p
  · obtain ⟨v, rfl, rx⟩ := one_rep r
    split at p
    · rename_i xs e
      split at p
      · rename_i bs e2
        obtain ⟨a, ws, rfl, h1, h2⟩ := lstOf_rep hS rx e
        have z := bls_rep h2 e2
        rw [z] at h1
        exact ⟨a, bs, rfl, h1, p.here hS (mk_bl _)⟩
      · exact p.elim
    · exact p.elim
  · exact p.elim
theorem sl_any : SndL (gm X T) (rAny X.K) fAny := by
  intro W σ m S H xs vs Q hS r p
  unfold fAny at p
  split at p
  · obtain ⟨v, rfl, rx⟩ := one_rep r
    split at p
    · rename_i xs e
      split at p
      · rename_i bs e2
        obtain ⟨a, ws, rfl, h1, h2⟩ := lstOf_rep hS rx e
        have z := bls_rep h2 e2
        rw [z] at h1
        exact ⟨a, bs, rfl, h1, p.here hS (mk_bl _)⟩
      · exact p.elim
    · exact p.elim
  · exact p.elim
theorem sl_tuple : SndL (gm X T) (fun xs H Q => ∃ p ys, xs = [.ref p] ∧ ((SqL X.K H p ys ∧ ∀ l, H l = none → Q (.ref l) (upd H l (.tup ys))) ∨ (SqT X.K H p ys ∧ Q (.ref p) H))) fTuple := by
  intro W σ m S H xs vs Q hS r p
  unfold fTuple at p
  split at p
  · obtain ⟨v, rfl, rx⟩ := one_rep r
    obtain ⟨a, ws, rfl, h1, h2⟩ := tup_rep rx
    exact ⟨a, ws, rfl, .inr ⟨h1, p.here hS rx⟩⟩
  · obtain ⟨v, rfl, rx⟩ := one_rep r
    split at p
    · rename_i xs e
      split at p
      · rename_i z
        obtain ⟨a, ws, rfl, h1, h2⟩ := lstOf_rep hS rx e
        refine ⟨a, ws, rfl, .inl ⟨h1, (new_tup (W := W) (σ := σ) hS h2 ?_).2⟩⟩
        unfold mkTup
        rw [if_pos z]
        exact p
      · exact p.elim
    · exact p.elim
  · exact p.elim
theorem sl_list (mt : Bool) (hb : mt = true → Bare (gm X T)) : SndL (gm X T) (fun xs H Q => ∃ p ys, xs = [.ref p] ∧ (SqL X.K H p ys ∨ SqT X.K H p ys) ∧ ∀ l, H l = none → Q (.ref l) (upd H l (.lst ys))) (fList mt) := by
  intro W σ m S H xs vs Q hS r p
  unfold fList at p
  split at p
  · obtain ⟨v, rfl, rx⟩ := one_rep r
    split at p
    · rename_i xs e
      obtain ⟨a, ws, rfl, h1, h2⟩ := seqOf_rep hS rx e
      exact ⟨a, ws, rfl, h1, (new_lst hb hS h2 p).2⟩
    · exact p.elim
  · exact p.elim
theorem sl_max : SndL (gm X T) (fun xs H Q => ∃ i j, xs = [.int i, .int j] ∧ Q (.int (if j > i then j else i)) H) fMax := by
  intro W σ m S H xs vs Q hS r p
  unfold fMax at p
  split at p
  · obtain ⟨v, u, rfl, rx, ry⟩ := two_rep r
    cases rep_int rx
    cases rep_int ry
    exact ⟨_, _, rfl, p.here hS (mk_int _)⟩
  · exact p.elim
theorem sl_min : SndL (gm X T) (fun xs H Q => ∃ i j, xs = [.int i, .int j] ∧ Q (.int (if j < i then j else i)) H) fMin := by
  intro W σ m S H xs vs Q hS r p
  unfold fMin at p
  split at p
  · obtain ⟨v, u, rfl, rx, ry⟩ := two_rep r
    cases rep_int rx
    cases rep_int ry
    exact ⟨_, _, rfl, p.here hS (mk_int _)⟩
  · exact p.elim
theorem sqT_ty {K : PySem.W.Frag} {H : Hp} {a : Addr} {vs : List V} (h : SqT K H a vs) : TyX K H (.ref a) (.type "tuple") := by
  rcases h with (h | ⟨o, h⟩) | ⟨o, its, n, h, c, _⟩
  · exact .base (.tup h)
  · exact .fTuple h
  · exact .kTuple h c
theorem ty_rep {g : Gm} {m : Mm} {S : Sto} {H : Hp} {x : PV} {v : V} {a : String} (hS : RelS g m S H) (r : Rep g m H x v) (e : tyName x S = some a) : TyX g.K H v (.type a) := by
  have lst : (match lstT x S with | some _ => some "list" | none => none) = some a → TyX g.K H v (.type a) := fun e => by
    cases q : lstT x S with
    | none => rw [q] at e; cases e
    | some xs =>
      rw [q] at e
      cases e
      obtain ⟨b, vs, rfl, h, _⟩ := lstT_rep hS r q
      exact .base (.lst h)
  cases x with
  | non => cases e; rw [rep_non r]; exact .base .non
  | bl b => cases e; rw [rep_bl r]; exact .base (.bl b)
  | int b => cases e; rw [rep_int r]; exact .base (.int b)
  | str b => cases e; rw [rep_str r]; exact .base (.str b)
  | tup xs => cases e; obtain ⟨b, vs, rfl, h, _⟩ := tup_rep r; exact sqT_ty h
  | ct xs => cases e; obtain ⟨b, vs, rfl, h, _⟩ := ct_rep r; exact sqT_ty h
  | nd ks xs => cases e; unfold Rep at r; obtain ⟨b, vs, rfl, _, h, _⟩ := r; exact .base (.dK h)
  | _ => exact lst e
theorem sl_isi : SndL (gm X T) (rIsi X.K) fIsi := by
  intro W σ m S H xs vs Q hS r p
  unfold fIsi at p
  split at p
  · obtain ⟨v, u, rfl, rx, ry⟩ := two_rep r
    cases rep_ty ry
    split at p
    · rename_i a e
      split at p
      · rename_i b e2
        exact ⟨v, _, _, _, b, rfl, .ty _, ty_rep hS rx e, kit_ty e2, p.here hS (mk_bl _)⟩
      · exact p.elim
    · exact p.elim
  · exact p.elim
theorem sl_strI : SndL (gm X T) (fun xs H Q => ∃ i, xs = [.int i] ∧ i.natAbs.log2 < 1920 ∧ Q (.str (toString i)) H) fStrI := by
  intro W σ m S H xs vs Q hS r p
  unfold fStrI at p
  split at p
  · obtain ⟨v, rfl, rx⟩ := one_rep r
    cases rep_int rx
    split at p
    · rename_i h
      exact ⟨_, rfl, h, p.here hS (mk_str _)⟩
    · exact p.elim
  · exact p.elim
/-- repr of data, by values: no repr is under way -/
def rRepr (K : PySem.W.Frag) : List V → Hp → VK → Prop := fun xs H Q => ∃ x d, xs = [x] ∧ Dp K H x d ∧ d.showable = true ∧ d.hasDict = false ∧ d.depth ≤ 64 ∧ d.shown.length ≤ sizeLine ∧ Q (.str d.shown) H
theorem call_reprD (hg : X.A.guards = some []) (hu : X.A.units + 80 < cLine) : CallR X (.builtin "repr") (rRepr X.K) := by
  intro pins s σ H xs us Q I r h
  obtain ⟨x, d, rfl, hd, sh, hz, dp, ln, q⟩ := h
  obtain ⟨u, rfl, rx⟩ := vals1 r
  obtain ⟨as, rd⟩ := Dp.reads I d x u hd rx
  have big : ∀ a, u = Value.ref a → wpAny (model X.prog X.w) X.A (call (.builtin "repr") [u]) (EP X pins σ Q) X.xe s := fun a e => by
    subst e
    exact repr_of_reads' rd sh (PyData.noDict_hsm hz) hg (by omega) (fun _ _ e => e) (fun h' t tk hk => ⟨.str d.shown, H, I.kept hk, ⟨_, rfl⟩, q⟩) ln
  cases hd with
  | non =>
    cases rx
    refine PySem.P.repr_of_none ⟨.str (PyData.none).shown, H, I.tok _, ⟨s.toks, ?_⟩, q⟩
    simp only [PyData.shown]
  | bl b =>
    cases rx
    refine PySem.P.repr_of_bool ⟨.str (PyData.bool b).shown, H, I.tok _, ⟨s.toks, ?_⟩, q⟩
    simp only [PyData.shown] <;> (cases b <;> rfl)
  | int i =>
    obtain ⟨t, rfl⟩ := rx
    refine PySem.P.repr_of_int (by simpa only [PyData.showable, decide_eq_true_eq] using sh) ⟨.str (PyData.int i).shown, H, I.tok _, ⟨s.toks, ?_⟩, q⟩
    simp only [PyData.shown]
  | str y =>
    obtain ⟨t, rfl⟩ := rx
    refine PySem.P.repr_of_str ⟨.str (PyData.str y).shown, H, I.tok _, ⟨s.toks, ?_⟩, q⟩ (by simpa only [PyData.shown] using ln)
    simp only [PyData.shown]
  | lst h1 h2 => exact big _ rx
  | tup h1 h2 => exact big _ rx
mutual
theorem toD_noDict : ∀ (x : PV) (d : PyData), toD x = some d → d.hasDict = false
  | .non, d, e => by unfold toD at e; cases e; simp only [PyData.hasDict]
  | .bl b, d, e => by unfold toD at e; cases e; simp only [PyData.hasDict]
  | .int b, d, e => by unfold toD at e; cases e; simp only [PyData.hasDict]
  | .str b, d, e => by unfold toD at e; cases e; simp only [PyData.hasDict]
  | .tup xs, d, e => by
    unfold toD at e
    cases q : toDL xs with
    | none => rw [q] at e; cases e
    | some ds => rw [q] at e; cases e; simp only [PyData.hasDict]; exact toDL_noDict xs ds q
  | .ct xs, d, e => by
    unfold toD at e
    cases q : toDL xs with
    | none => rw [q] at e; cases e
    | some ds => rw [q] at e; cases e; simp only [PyData.hasDict]; exact toDL_noDict xs ds q
  | .nl xs, d, e => by
    unfold toD at e
    cases q : toDL xs with
    | none => rw [q] at e; cases e
    | some ds => rw [q] at e; cases e; simp only [PyData.hasDict]; exact toDL_noDict xs ds q
  | .fl xs, d, e => by
    unfold toD at e
    cases q : toDL xs with
    | none => rw [q] at e; cases e
    | some ds => rw [q] at e; cases e; simp only [PyData.hasDict]; exact toDL_noDict xs ds q
  | .nd _ _, _, e => by unfold toD at e; cases e
  | .ref _, _, e => by unfold toD at e; cases e
  | .ty _, _, e => by unfold toD at e; cases e
  | .glb _, _, e => by unfold toD at e; cases e
  | .err, _, e => by unfold toD at e; cases e
  | .lam, _, e => by unfold toD at e; cases e
theorem toDL_noDict : ∀ (xs : List PV) (ds : List PyData), toDL xs = some ds → PyData.hasDictAll ds = false
  | [], ds, e => by unfold toDL at e; cases e; simp only [PyData.hasDictAll]
  | x :: xs, ds, e => by
    unfold toDL at e
    cases q1 : toD x with
    | none => rw [q1] at e; cases e
    | some d =>
      cases q2 : toDL xs with
      | none => rw [q1, q2] at e; cases e
      | some es => rw [q1, q2] at e; cases e; simp only [PyData.hasDictAll, toD_noDict x d q1, toDL_noDict xs es q2, Bool.or_self]
end
theorem toDS_noDict {x : PV} {S : Sto} {d : PyData} (e : toDS x S = some d) : d.hasDict = false := by
  cases x with
  | ref n =>
    simp only [toDS] at e
    cases q : S[n]? with
    | none => rw [q] at e; cases e
    | some o =>
      cases o with
      | lst xs =>
        rw [q] at e
        have e : (toDL xs).map PyData.list = some d := e
        cases q2 : toDL xs with
        | none => rw [q2] at e; cases e
        | some ds => rw [q2] at e; cases e; simp only [PyData.hasDict]; exact toDL_noDict xs ds q2
      | dT ks => rw [q] at e; cases e
      | fz ks => rw [q] at e; cases e
  | _ => exact toD_noDict _ d e
theorem sl_repr : SndL (gm X T) (rRepr X.K) fRepr := by
  intro W σ m S H xs vs Q hS r p
  unfold fRepr at p
  split at p
  · obtain ⟨v, rfl, rx⟩ := one_rep r
    split at p
    · rename_i d e
      split at p
      · rename_i h
        exact ⟨v, d, rfl, dpS_of hS rx e, h.1, toDS_noDict e, h.2.1, lim_line h.2.2, p.here hS (mk_str _)⟩
      · exact p.elim
    · exact p.elim
  · exact p.elim
/-- x in a list of data -/
def fInD (neg : Bool) (x y : PV) (S : Sto) : Res PV := match toDS x S, toDS y S with
  | some d, some (.list ds) => if SeqAt.shaped d = true ∧ SeqAt.shaped (.list ds) = true then .ok (.bl (if neg = true then !(ds.any fun z => PyData.eqv z d) else ds.any fun z => PyData.eqv z d)) S else .bad
  | _, _ => .bad
theorem sn_inD : Snd (gm X T) (rInD X.K) (fInD false) := by
  intro W σ m S H x y v u Q hS rx ry p
  unfold fInD at p
  split at p
  · rename_i d ds h1 h2
    split at p
    · rename_i h
      exact ⟨d, ds, dpS_of hS rx h1, dpS_of hS ry h2, h.1, h.2, p.here hS (mk_bl _)⟩
    · exact p.elim
  · exact p.elim
theorem sn_notInD : Snd (gm X T) (rNotInD X.K) (fInD true) := by
  intro W σ m S H x y v u Q hS rx ry p
  unfold fInD at p
  split at p
  · rename_i d ds h1 h2
    split at p
    · rename_i h
      exact ⟨d, ds, dpS_of hS rx h1, dpS_of hS ry h2, h.1, h.2, p.here hS (mk_bl _)⟩
    · exact p.elim
  · exact p.elim
end
/-! ### xs.append(e) -/
def fApp (n : Nat) (y : PV) (S : Sto) : Res PV := match S[n]? with
  | some (SO.lst xs) => if xs.length < lim then .ok .non (S.set n (SO.lst (xs ++ [y]))) else .bad
  | _ => .bad
def dApp (d : EnP → Sto → Res PV) (dl : EnP → Sto → Res (List PV)) : EnP → Sto → Res PV := fun ρ S => (d ρ S).bind fun x S1 => match x with
  | .ref n => (match S1[n]? with
    | some (SO.lst _) => (dl ρ S1).bind fun ys S2 => (match ys with
      | [y] => fApp n y S2
      | _ => .bad)
    | _ => .bad)
  | _ => .bad
section
variable {X : Cx} {T : Tb} {W : WX} {o e : Expr} {es : List Expr} {d : EnP → Sto → Res PV} {dl : EnP → Sto → Res (List PV)} {apos cpos : Pos}
theorem ref_rep {g : Gm} {m : Mm} {S : Sto} {H : Hp} {n : Nat} {v : V} {xs : List PV} (hS : RelS g m S H) (r : Rep g m H (.ref n) v) (e : S[n]? = some (SO.lst xs)) : ∃ a vs, m.ix[n]? = some a ∧ v = .ref a ∧ H a = some (HO.lst vs) ∧ RepL g m H xs vs := by
  obtain ⟨a, u, f1, f2, vs, rfl, f3⟩ := hS.at_ n _ e
  unfold Rep at r
  obtain ⟨b, e1, e2⟩ := r
  rw [f1] at e1; cases e1
  exact ⟨a, vs, f1, e2, f2, RepL.up _ _ f3⟩
theorem ref_any {g : Gm} {m : Mm} {S : Sto} {H : Hp} {n : Nat} {v : V} {xs : List PV} (hS : RelS g m S H) (r : Rep g m H (.ref n) v) (e : S[n]? = some (SO.lst xs)) : ∃ a vs, m.ix[n]? = some a ∧ v = .ref a ∧ H a = some (HO.lst vs) ∧ RepL g m H xs vs := ref_rep hS r e
theorem ce_app (hb : Bare (gm X T)) (ho : CE X T W o d) (ha : CA X T W (e :: es) dl)
    (hbase : attributeBase o "append" X.env (eval o X.env) = eval o X.env := by rfl)
    (hfew : ((backTo cpos (starEach (e :: es) X.env)).all (fun x => !x.1) && (backToKw cpos (keywordEach [] X.env)).all (fun x => x.1.isSome)
      && decide ((e :: es).length + ([] : List Keyword).length + (if ([] : List Keyword).isEmpty then 0 else 1) < 30)) = true := by rfl)
    (hline : (apos.endLine == cpos.line) = true := by rfl) (hs : starEach (e :: es) X.env = (false, eval e X.env) :: starEach es X.env := by rfl) (hplain : (backTo cpos (starEach es X.env)).any (·.1) = false := by rfl) :
    CE X T W (.Call (.Attribute o "append" apos) (e :: es) [] cpos) (dApp d dl) :=
  pe_imp (pe_bm PySem.F.plainAttrs_list PySem.F.slot_list_append PySem.F.type_list_append mt_append ho ha hbase hfew hline hs hplain) fun σ H Q ⟨ρ, S, m, hE, hS, p⟩ =>
    tr_bind (f := fun (x : PV) (ρ : EnP) (S1 : Sto) => match x with | .ref n => (match S1[n]? with | some (SO.lst _) => (dl ρ S1).bind fun ys S2 => (match ys with | [y] => fApp n y S2 | _ => .bad) | _ => .bad) | _ => .bad) hE hS p fun x S1 m1 H1 w s1 hE1 hS1 hr1 p1 => by
      cases x with
      | ref n =>
        have p1 : PostV (gm X T) W σ m1 H1 Q (match S1[n]? with | some (SO.lst _) => (dl ρ S1).bind fun ys S2 => (match ys with | [y] => fApp n y S2 | _ => .bad) | _ => .bad) := p1
        split at p1
        case h_2 => exact p1.elim
        rename_i xs0 e0
        obtain ⟨a, vs0, e1, rfl, f2, _⟩ := ref_any hS1 hr1 e0
        refine ⟨.inl ⟨rfl, vs0, .inl (.inl f2)⟩, tr_bind (f := fun (ys : List PV) (ρ : EnP) (S2 : Sto) => match ys with | [y] => fApp n y S2 | _ => .bad) hE1 hS1 p1 fun ys S2 m2 H2 ws s2 hE2 hS2 hr2 p2 => ?_⟩
        split at p2
        · rename_i y
          obtain ⟨u, rfl, ru⟩ := one_rep hr2
          unfold fApp at p2
          split at p2
          · rename_i xs e3
            split at p2
            · rename_i hl
              obtain ⟨a', vs, g1, g2, g3, g4⟩ := ref_rep hS2 (hr1.step s2) e3
              cases g2
              have hn2 : n < S2.length := (List.getElem?_eq_some_iff.mp e3).1
              refine ⟨a, vs, u, rfl, rfl, g3, ?_, ?_⟩
              · rw [sizeLine_eq, ← g4.length]; exact hl
              · exact p2 m2 _ _ (step_write (List.mem_of_getElem? g1) g3) (hS2.write hb g1 hn2 g3 (g4.append (RepL.cons ru RepL.nil))) mk_non
            · exact p2.elim
          · exact p2.elim
        · exact p2.elim
      | _ => exact p1.elim
end
end Mi
end
section
set_option Elab.async false
set_option linter.all false
set_option maxRecDepth 100000
set_option maxHeartbeats 2000000
namespace Mi
open PySem PySem.Spec PyProof.Rows L2

/-! ### statements -/
/-- an expression's answer within a block -/
def sE {α : Type} (r : Res α) (ρ : EnP) (k : α → Sto → SR) : SR := match r with
  | .ok a S => k a S
  | .exc c fs S => .exc c fs ρ S
  | .bad => .bad
@[simp] theorem sE_ok {α : Type} (a : α) (S : Sto) (ρ : EnP) (k : α → Sto → SR) : sE (.ok a S) ρ k = k a S := rfl
@[simp] theorem sE_exc {α : Type} (c : Str) (fs : List (Str × PV)) (S : Sto) (ρ : EnP) (k : α → Sto → SR) : sE (.exc c fs S) ρ k = .exc c fs ρ S := rfl
@[simp] theorem sE_bad {α : Type} (ρ : EnP) (k : α → Sto → SR) : sE .bad ρ k = .bad := rfl
theorem ts_bind {α β : Type} {g : Gm} {W : WX} {R : Mm → Hp → α → β → Prop} {d : EnP → Sto → Res α} {k : α → Sto → SR} {D : Ends} {σ : L2.St} {H : Hp} {ρ : EnP} {S : Sto} {m : Mm} (hE : RelE g m H ρ σ) (hS : RelS g m S H) (p : PostS g W D m H (sE (d ρ S) ρ k)) {Q1 : β → Hp → Prop}
    (h : ∀ a S1 m1 H1 w, Step m H m1 H1 → RelE g m1 H1 ρ σ → RelS g m1 S1 H1 → R m1 H1 a w → PostS g W D m1 H1 (k a S1) → Q1 w H1) : tr g W R d σ H Q1 := by
  refine ⟨ρ, S, m, hE, hS, ?_⟩
  cases hd : d ρ S with
  | ok a S1 =>
    rw [hd] at p
    exact fun m' H' w s h1 h2 => h a S1 m' H' w s (hE.step s) h1 h2 (PostS.step s p)
  | exc c fs S1 =>
    rw [hd] at p
    exact fun m' H' cls dd s h1 h2 => p m' H' σ cls dd s h1 (hE.step s) h2
  | bad =>
    rw [hd] at p
    exact p.elim
theorem PostS.nx_here {g : Gm} {W : WX} {D : Ends} {m : Mm} {H : Hp} {ρ : EnP} {S : Sto} {σ : L2.St} (p : PostS g W D m H (.nx ρ S)) (hS : RelS g m S H) (hE : RelE g m H ρ σ) : D.nx σ H := p m H σ (Step.refl m H) hS hE
def dExpr (d : EnP → Sto → Res PV) : EnP → Sto → SR := fun ρ S => sE (d ρ S) ρ fun _ S1 => .nx ρ S1
def dRet (d : EnP → Sto → Res PV) : EnP → Sto → SR := fun ρ S => sE (d ρ S) ρ fun v S1 => .rt v S1
def dRetN : EnP → Sto → SR := fun _ S => .rt .non S
def dPass : EnP → Sto → SR := fun ρ S => .nx ρ S
def dBreak : EnP → Sto → SR := fun ρ S => .bk ρ S
def dCont : EnP → Sto → SR := fun ρ S => .ct ρ S
def dSeq (d1 d2 : EnP → Sto → SR) : EnP → Sto → SR := fun ρ S => match d1 ρ S with
  | .nx ρ' S' => d2 ρ' S'
  | r => r
def dIfS (dc : EnP → Sto → Res Bool) (d1 d2 : EnP → Sto → SR) : EnP → Sto → SR := fun ρ S => sE (dc ρ S) ρ fun b S1 => if b = true then d1 ρ S1 else d2 ρ S1
def dSet (i : Nat) (d : EnP → Sto → Res PV) : EnP → Sto → SR := fun ρ S => sE (d ρ S) ρ fun v S1 => .nx (ρ.set i (some v)) S1
def dPar (i j : Nat) (dl : EnP → Sto → Res (List PV)) : EnP → Sto → SR := fun ρ S => sE (dl ρ S) ρ fun vs S1 => match vs with
  | [v, w] => .nx ((ρ.set i (some v)).set j (some w)) S1
  | _ => .bad
def dPar3 (i j l : Nat) (dl : EnP → Sto → Res (List PV)) : EnP → Sto → SR := fun ρ S => sE (dl ρ S) ρ fun vs S1 => match vs with
  | [u, v, w] => .nx (((ρ.set i (some u)).set j (some v)).set l (some w)) S1
  | _ => .bad
/-- a target -/
abbrev DG := PV → EnP → Sto → Res EnP
def tgt (g : Gm) (W : WX) (d : DG) : TG := fun v σ H Q => ∃ x ρ S m, Rep g m H x v ∧ RelE g m H ρ σ ∧ RelS g m S H ∧ PostR g W σ m H (fun m' H' ρ' σ' => RelE g m' H' ρ' σ') Q (d x ρ S)
abbrev CG (X : Cx) (T : Tb) (W : WX) (tg : Expr) (d : DG) : Prop := PG X tg (tgt (gm X T) W d)
abbrev DGs := List PV → EnP → Sto → Res EnP
def tgts (g : Gm) (W : WX) (d : DGs) : TGs := fun vs σ H Q => ∃ xs ρ S m, RepL g m H xs vs ∧ RelE g m H ρ σ ∧ RelS g m S H ∧ PostR g W σ m H (fun m' H' ρ' σ' => RelE g m' H' ρ' σ') Q (d xs ρ S)
abbrev CGs (X : Cx) (T : Tb) (W : WX) (tg : List Expr) (d : DGs) : Prop := PGs X tg (tgts (gm X T) W d)
def gNm (i : Nat) : DG := fun x ρ S => .ok (ρ.set i (some x)) S
def gsNil : DGs := fun xs ρ S => match xs with
  | [] => .ok ρ S
  | _ => .bad
def gsCons (d : DG) (ds : DGs) : DGs := fun xs ρ S => match xs with
  | x :: r => (d x ρ S).bind fun ρ' S' => ds r ρ' S'
  | [] => .bad
def gTp (n : Nat) (ds : DGs) : DG := fun x ρ S => match x with
  | .tup xs => if xs.length = n then ds xs ρ S else .bad
  | _ => .bad
/-- o[i] = x -/
def setIx (x : PV) (ρ : EnP) (o i : PV) (S2 : Sto) : Res EnP := match o, i with
  | .ref n, .int k => (match S2[n]? with
    | some (SO.lst xs) => (match ixN xs.length k with
      | some j => .ok ρ (S2.set n (SO.lst (xs.set j x)))
      | none => .bad)
    | _ => .bad)
  | _, _ => .bad
def gIx (do_ di : EnP → Sto → Res PV) : DG := fun x ρ S => (do_ ρ S).bind fun o S1 => (di ρ S1).bind fun i S2 => setIx x ρ o i S2
def dAsg (d : EnP → Sto → Res PV) (dg : DG) : EnP → Sto → SR := fun ρ S => sE (d ρ S) ρ fun v S1 => sE (dg v ρ S1) ρ fun ρ' S2 => .nx ρ' S2
def dAug (i : Nat) (f : PV → PV → Sto → Res PV) (d : EnP → Sto → Res PV) : EnP → Sto → SR := fun ρ S => match ρ[i]? with
  | some (some x) => sE (d ρ S) ρ fun y S1 => sE (f x y S1) ρ fun z S2 => .nx (ρ.set i (some z)) S2
  | _ => .bad
theorem pg_imp {X : Cx} {e : Expr} {t t' : TG} (h : PG X e t) (w : ∀ v σ H Q, t' v σ H Q → t v σ H Q) : PG X e t' := ⟨fun pins s σ H v u Q I r q => h.run pins s σ H v u Q I r (w v σ H Q q)⟩
theorem pgs_imp {X : Cx} {e : List Expr} {t t' : TGs} (h : PGs X e t) (w : ∀ v σ H Q, t' v σ H Q → t v σ H Q) : PGs X e t' := ⟨fun pins s σ H v u Q I r q => h.run pins s σ H v u Q I r (w v σ H Q q)⟩
section
variable {X : Cx} {T : Tb} {W : WX} {pos : Pos} {e : Expr} {d : EnP → Sto → Res PV} {st : Stmt} {rest : List Stmt} {d1 d2 : EnP → Sto → SR}
theorem css_nil : CSs X T W [] dPass := pss_imp pss_nil fun D σ H ⟨ρ, S, m, hE, hS, p⟩ => p.nx_here hS hE
theorem css_cons (h1 : CS X T W st d1) (h2 : CSs X T W rest d2) : CSs X T W (st :: rest) (dSeq d1 d2) :=
  pss_imp (pss_cons h1 h2) fun D σ H ⟨ρ, S, m, hE, hS, p⟩ => by
    refine ⟨ρ, S, m, hE, hS, ?_⟩
    unfold dSeq at p
    cases hd : d1 ρ S with
    | nx ρ' S' =>
      rw [hd] at p
      exact fun m' H' σ' s h3 h4 => ⟨ρ', S', m', h4, h3, PostS.step s p⟩
    | rt v S' => rw [hd] at p; exact p
    | bk ρ' S' => rw [hd] at p; exact p
    | ct ρ' S' => rw [hd] at p; exact p
    | exc c fs ρ' S' => rw [hd] at p; exact p
    | bad => rw [hd] at p; exact p
theorem css_one (h1 : CS X T W st d1) : CSs X T W [st] d1 := pss_one h1
theorem cs_pass : CS X T W (.Pass pos) dPass := ps_imp ps_pass fun D σ H ⟨ρ, S, m, hE, hS, p⟩ => p.nx_here hS hE
theorem cs_break : CS X T W (.Break pos) dBreak := ps_imp ps_break fun D σ H ⟨ρ, S, m, hE, hS, p⟩ => p m H σ (Step.refl m H) hS hE
theorem cs_cont : CS X T W (.Continue pos) dCont := ps_imp ps_continue fun D σ H ⟨ρ, S, m, hE, hS, p⟩ => p m H σ (Step.refl m H) hS hE
theorem cs_expr (h : CE X T W e d) (hs : swapsWith e none pos.line X.env = pure false := by rfl) : CS X T W (.Expr e pos) (dExpr d) :=
  ps_imp (ps_expr h hs) fun D σ H ⟨ρ, S, m, hE, hS, p⟩ => ts_bind (k := fun _ S1 => .nx ρ S1) hE hS p fun a S1 m1 H1 w s1 hE1 hS1 hr p1 => p1.nx_here hS1 hE1
theorem cs_ret (h : CE X T W e d) : CS X T W (.Return (some e) pos) (dRet d) :=
  ps_imp (ps_ret h) fun D σ H ⟨ρ, S, m, hE, hS, p⟩ => ts_bind (k := fun v S1 => .rt v S1) hE hS p fun a S1 m1 H1 w s1 hE1 hS1 hr p1 => p1 m1 H1 w (Step.refl _ _) hS1 hr
theorem cs_retN : CS X T W (.Return none pos) dRetN := ps_imp ps_retN fun D σ H ⟨ρ, S, m, hE, hS, p⟩ => p m H .non (Step.refl _ _) hS mk_non
theorem cs_if {c : Expr} {dc : EnP → Sto → Res Bool} {a b : List Stmt} (hc : CT X T W c dc) (ha : CSs X T W a d1) (hb : CSs X T W b d2) : CS X T W (.If c a b pos) (dIfS dc d1 d2) :=
  ps_imp (ps_if hc ha hb) fun D σ H ⟨ρ, S, m, hE, hS, p⟩ => ts_bind (k := fun b S1 => if b = true then d1 ρ S1 else d2 ρ S1) hE hS p fun b S1 m1 H1 w s1 hE1 hS1 hr p1 => by
    cases hr
    cases b with
    | true => rw [if_pos rfl] at p1 ⊢; exact ⟨ρ, S1, m1, hE1, hS1, p1⟩
    | false => rw [if_neg Bool.false_ne_true] at p1 ⊢; exact ⟨ρ, S1, m1, hE1, hS1, p1⟩
theorem cs_set {i : Nat} {x : Str} {pos' : Pos} (hN : X.N.Nodup) (hi : X.N[i]? = some x) (hx : Loc X.env.scope x) (he : CE X T W e d) (hs : swapsWith e (some (.Name x pos')) pos.line X.env = pure false := by rfl)
    (hf : X.fn x = true ∨ X.env.scope.names.lookup x = some .local := by first | exact .inl rfl | exact .inr rfl | assumption) : CS X T W (.Assign [.Name x pos'] e pos) (dSet i d) :=
  ps_imp (ps_set hN hi hx he hs hf) fun D σ H ⟨ρ, S, m, hE, hS, p⟩ => ts_bind (k := fun v S1 => .nx (ρ.set i (some v)) S1) hE hS p fun a S1 m1 H1 w s1 hE1 hS1 hr p1 => p1.nx_here hS1 (hE1.set i hr)
theorem cs_par {i j : Nat} {x y : Str} {a b : Expr} {dl : EnP → Sto → Res (List PV)} {px py pt : Pos} {kt k2 pt2} (hc : X.calm = true) (hN : X.N.Nodup) (hi : X.N[i]? = some x) (hj : X.N[j]? = some y) (hij : i ≠ j)
    (hx : X.env.scope.names.lookup x = some .local) (hy : X.env.scope.names.lookup y = some .local) (ha : CA X T W [a, b] dl)
    (hw : swappedStores [.Tuple [.Name x px, .Name y py] kt pt] (.Tuple [a, b] k2 pt2) X.env = pure (some [x, y]))
    (hs : swapsWithSole [.Tuple [.Name x px, .Name y py] kt pt] (.Tuple [a, b] k2 pt2) pos.line X.env = pure false := by rfl) :
    CS X T W (.Assign [.Tuple [.Name x px, .Name y py] kt pt] (.Tuple [a, b] k2 pt2) pos) (dPar i j dl) :=
  ps_imp (ps_par hc hN hi hj hij hx hy ha hw hs) fun D σ H ⟨ρ, S, m, hE, hS, p⟩ => ts_bind (k := fun vs S1 => match vs with | [v, w] => .nx ((ρ.set i (some v)).set j (some w)) S1 | _ => .bad) hE hS p fun vs S1 m1 H1 ws s1 hE1 hS1 hr p1 => by
    split at p1
    · obtain ⟨v, u, rfl, r1, r2⟩ := two_rep hr
      exact ⟨v, u, rfl, p1.nx_here hS1 ((hE1.set i r1).set j r2)⟩
    · exact p1.elim
theorem three_rep {g : Gm} {m : Mm} {H : Hp} {x y z : PV} {vs : List V} (r : RepL g m H [x, y, z] vs) : ∃ v u w, vs = [v, u, w] ∧ Rep g m H x v ∧ Rep g m H y u ∧ Rep g m H z w := by
  unfold RepL at r
  obtain ⟨v, ws, rfl, h, r⟩ := r
  obtain ⟨u, w, rfl, h2, h3⟩ := two_rep r
  exact ⟨v, u, w, rfl, h, h2, h3⟩
theorem cs_par3 {i j l : Nat} {x y z : Str} {a b c : Expr} {dl : EnP → Sto → Res (List PV)} {px py pz pt : Pos} {kt k2 pt2} (hc : X.calm = true) (hN : X.N.Nodup) (hi : X.N[i]? = some x) (hj : X.N[j]? = some y) (hl : X.N[l]? = some z) (hij : i ≠ j) (hil : i ≠ l) (hjl : j ≠ l)
    (hx : X.env.scope.names.lookup x = some .local) (hy : X.env.scope.names.lookup y = some .local) (hz : X.env.scope.names.lookup z = some .local) (ha : CA X T W [a, b, c] dl)
    (hw : swappedStores [.Tuple [.Name x px, .Name y py, .Name z pz] kt pt] (.Tuple [a, b, c] k2 pt2) X.env = pure (some [x, y, z]))
    (hs : swapsWithSole [.Tuple [.Name x px, .Name y py, .Name z pz] kt pt] (.Tuple [a, b, c] k2 pt2) pos.line X.env = pure false := by rfl) :
    CS X T W (.Assign [.Tuple [.Name x px, .Name y py, .Name z pz] kt pt] (.Tuple [a, b, c] k2 pt2) pos) (dPar3 i j l dl) :=
  ps_imp (ps_par3 hc hN hi hj hl hij hil hjl hx hy hz ha hw hs) fun D σ H ⟨ρ, S, m, hE, hS, p⟩ => ts_bind (k := fun vs S1 => match vs with | [u, v, w] => .nx (((ρ.set i (some u)).set j (some v)).set l (some w)) S1 | _ => .bad) hE hS p fun vs S1 m1 H1 ws s1 hE1 hS1 hr p1 => by
    split at p1
    · obtain ⟨v, u, w, rfl, r1, r2, r3⟩ := three_rep hr
      exact ⟨v, u, w, rfl, p1.nx_here hS1 (((hE1.set i r1).set j r2).set l r3)⟩
    · exact p1.elim
/-! targets -/
theorem cg_name {i : Nat} {x : Str} (hN : X.N.Nodup) (hi : X.N[i]? = some x) (hx : Loc X.env.scope x) (hf : X.fn x = true ∨ X.env.scope.names.lookup x = some .local := by first | exact .inl rfl | exact .inr rfl | assumption) : CG X T W (.Name x pos) (gNm i) :=
  pg_imp (pg_name hN hi hx hf) fun v σ H Q ⟨x, ρ, S, m, hr, hE, hS, p⟩ => PostR.here (a := ρ.set i (some x)) p hS (hE.set i hr)
theorem cgs_nil : CGs X T W [] gsNil := pgs_imp pgs_nil fun vs σ H Q ⟨xs, ρ, S, m, hr, hE, hS, p⟩ => by
  unfold gsNil at p
  split at p
  · unfold RepL at hr
    exact ⟨hr, PostR.here (a := ρ) p hS hE⟩
  · exact p.elim
/-- an exception that a target raises is told at the slots ahead of it -/
def Flat (W : WX) : Prop := ∀ c d σ σ' H, W c d σ H → W c d σ' H
theorem cgs_cons {e : Expr} {es : List Expr} {dg : DG} {ds : DGs} (fw : Flat W) (h1 : CG X T W e dg) (h2 : CGs X T W es ds) (hs : (assignEach (e :: es) X.env).map (·.2) = assign e X.env :: (assignEach es X.env).map (·.2) := by rfl) : CGs X T W (e :: es) (gsCons dg ds) :=
  pgs_imp (pgs_cons h1 h2 hs) fun vs σ H Q ⟨xs, ρ, S, m, hr, hE, hS, p⟩ => by
    unfold gsCons at p
    split at p
    · rename_i x r
      unfold RepL at hr
      obtain ⟨v, ws, rfl, r1, r2⟩ := hr
      refine ⟨v, ws, rfl, x, ρ, S, m, r1, hE, hS, ?_⟩
      cases hd : dg x ρ S with
      | ok ρ' S' =>
        rw [hd] at p
        refine fun m' H' σ' s h3 h4 => ⟨r, ρ', S', m', r2.step s, h4, h3, ?_⟩
        have p2 : PostR (gm X T) W σ m H (fun m' H' ρ' σ' => RelE (gm X T) m' H' ρ' σ') Q (ds r ρ' S') := p
        have p3 := PostR.step s p2
        cases hq : ds r ρ' S' with
        | ok a S2 => rw [hq] at p3; exact p3
        | exc c fs S2 => rw [hq] at p3; exact fun m2 H2 cls dd s2 h5 h6 => fw _ _ σ σ' _ (p3 m2 H2 cls dd s2 h5 h6)
        | bad => rw [hq] at p3; exact p3
      | exc c fs S' => rw [hd] at p; exact p
      | bad => rw [hd] at p; exact p.elim
    · exact p.elim
theorem cg_tup {es : List Expr} {k : Nat} {ds : DGs} {n : Nat} (hc : X.calm = true) (h : CGs X T W es ds) (hn : (assignEach es X.env).length = n := by rfl) (hst : (assignEach es X.env).findIdx? (·.1) = none := by rfl) : CG X T W (.Tuple es k pos) (gTp n ds) :=
  pg_imp (pg_tup hc h hn hst) fun v σ H Q ⟨x, ρ, S, m, hr, hE, hS, p⟩ => by
    cases x with
    | tup xs =>
      simp only [gTp] at p
      split at p
      · rename_i hl
        obtain ⟨a, vs, rfl, h1, h2⟩ := tup_rep hr
        exact ⟨a, vs, rfl, h1, by rw [← h2.length]; exact hl, xs, ρ, S, m, h2, hE, hS, p⟩
      · exact p.elim
    | _ => exact p.elim
theorem cg_ix {o i : Expr} {do_ di : EnP → Sto → Res PV} (hb : Bare (gm X T)) (ho : CE X T W o do_) (hi : CE X T W i di)
    (ha : ∀ v, assign (.Subscript o i pos) X.env v = (do
      let ov ← holding [v] (eval o X.env)
      let iv ← holding [v, ov] (eval i X.env)
      standAt pos
      holding [v, ov, iv] (setItem ov iv v)
      release [v, ov, iv] []) := by intro _; rfl) : CG X T W (.Subscript o i pos) (gIx do_ di) :=
  pg_imp (pg_sub ho hi set_list ha) fun v σ H Q ⟨x, ρ, S, m, hr, hE, hS, p⟩ =>
    tr_bind (R' := fun m' H' ρ' σ' => RelE (gm X T) m' H' ρ' σ') (f := fun (o : PV) (_ : EnP) (S1 : Sto) => (di ρ S1).bind fun i S2 => setIx x ρ o i S2) hE hS p fun o S1 m1 H1 w s1 hE1 hS1 hr1 p1 =>
    tr_bind (R' := fun m' H' ρ' σ' => RelE (gm X T) m' H' ρ' σ') (f := fun (i : PV) (_ : EnP) (S2 : Sto) => setIx x ρ o i S2) hE1 hS1 p1 fun i S2 m2 H2 w2 s2 hE2 hS2 hr2 p2 => by
      cases o with
      | ref n =>
        cases i with
        | int k =>
          cases rep_int hr2
          have p2 : PostR (gm X T) W σ m2 H2 (fun m' H' ρ' σ' => RelE (gm X T) m' H' ρ' σ') Q (match S2[n]? with
            | some (SO.lst xs) => (match ixN xs.length k with
              | some j => Res.ok ρ (S2.set n (SO.lst (xs.set j x)))
              | none => .bad)
            | _ => .bad) := p2
          split at p2
          · rename_i xs e
            split at p2
            · rename_i j ej
              obtain ⟨a, vs, g1, rfl, g3, g4⟩ := ref_rep hS2 (hr1.step s2) e
              have hn2 : n < S2.length := (List.getElem?_eq_some_iff.mp e).1
              refine ⟨a, vs, k, j, rfl, rfl, g3, by rw [← g4.length]; exact ej, ?_⟩
              have st := step_write (us := vs.set j v) (List.mem_of_getElem? g1) g3
              exact p2 m2 _ _ st (hS2.write hb g1 hn2 g3 (g4.set ((hr.step s1).step s2) j)) (hE2.step st)
            · exact p2.elim
          · exact p2.elim
        | _ => exact p2.elim
      | _ => exact p2.elim
theorem cs_asg {tg : Expr} {dg : DG} (he : CE X T W e d) (hg : CG X T W tg dg) (hs : swapsWithSole [tg] e pos.line X.env = pure false := by rfl) (hw : swappedStores [tg] e X.env = pure none := by rfl)
    (h1 : (assignEach [tg] X.env).map (·.2) = [assign tg X.env] := by rfl) : CS X T W (.Assign [tg] e pos) (dAsg d dg) :=
  ps_imp (ps_asg he hg hs hw h1) fun D σ H ⟨ρ, S, m, hE, hS, p⟩ => ts_bind (k := fun v S1 => sE (dg v ρ S1) ρ fun ρ' S2 => .nx ρ' S2) hE hS p fun a S1 m1 H1 w s1 hE1 hS1 hr p1 => by
    refine ⟨a, ρ, S1, m1, hr, hE1, hS1, ?_⟩
    cases hd : dg a ρ S1 with
    | ok ρ' S' => rw [hd] at p1; exact fun m' H' σ' s h3 h4 => p1 m' H' σ' s h3 h4
    | exc c fs S' => rw [hd] at p1; exact fun m' H' cls dd s h3 h4 => p1 m' H' σ cls dd s h3 (hE1.step s) h4
    | bad => rw [hd] at p1; exact p1.elim
theorem cs_aug {i : Nat} {x : Str} {op : Operator} {f : PV → PV → Sto → Res PV} {r : R2} {pos' : Pos} (hN : X.N.Nodup) (hi : X.N[i]? = some x) (hx : Loc X.env.scope x) (he : CE X T W e d) (ho : OpR X (inplaceOp op) r) (hs : Snd (gm X T) r f)
    (hf : X.fn x = true ∨ X.env.scope.names.lookup x = some .local := by first | exact .inl rfl | exact .inr rfl | assumption) : CS X T W (.AugAssign (.Name x pos') op e pos) (dAug i f d) :=
  ps_imp (ps_aug (ti := r) hN hi hx he ho hf) fun D σ H ⟨ρ, S, m, hE, hS, p⟩ => by
    unfold dAug at p
    split at p
    · rename_i v ev
      obtain ⟨w, e1, e2⟩ := hE.at_ i v ev
      refine ⟨w, e1, ts_bind (k := fun y S1 => sE (f v y S1) ρ fun z S2 => .nx (ρ.set i (some z)) S2) hE hS p fun y S1 m1 H1 u s1 hE1 hS1 hr p1 => ?_⟩
      refine hs W σ m1 S1 H1 v y w u _ hS1 (e2.step s1) hr ?_
      cases hd : f v y S1 with
      | ok z S2 => rw [hd] at p1; exact fun m' H' w' s h3 h4 => p1 m' H' _ s h3 ((hE1.step s).set i h4)
      | exc c fs S2 => rw [hd] at p1; exact fun m' H' cls dd s h3 h4 => p1 m' H' σ cls dd s h3 (hE1.step s) h4
      | bad => rw [hd] at p1; exact p1.elim
    · exact p.elim
end

/-! ### while -/
def whileP (dc : EnP → Sto → Res Bool) (db : EnP → Sto → SR) : Nat → EnP → Sto → SR
  | 0, _, _ => .bad
  | n + 1, ρ, S => sE (dc ρ S) ρ fun b S1 => if b = true then (match db ρ S1 with
      | .nx ρ' S' => whileP dc db n ρ' S'
      | .ct ρ' S' => whileP dc db n ρ' S'
      | .bk ρ' S' => .nx ρ' S'
      | r => r) else .nx ρ S1
theorem cs_while {X : Cx} {T : Tb} {W : WX} {pos : Pos} {c : Expr} {body : List Stmt} {dc : EnP → Sto → Res Bool} {db : EnP → Sto → SR} (n : Nat) (hp : PassesOwn (model X.prog X.w) X.A X.env X.xe) (hc : CT X T W c dc) (hb : CSs X T W body db) :
    CS X T W (.While c body [] pos) (whileP dc db n) :=
  ps_imp (ps_while hp hc hb) fun D σ H ⟨ρ, S, m, hE, hS, p⟩ => by
    refine ⟨fun n σ H => ∃ ρ S m, RelE (gm X T) m H ρ σ ∧ RelS (gm X T) m S H ∧ PostS (gm X T) W D m H (whileP dc db n ρ S), ⟨n, ρ, S, m, hE, hS, p⟩, ?_⟩
    rintro n σ H ⟨ρ, S, m, hE, hS, p⟩
    cases n with
    | zero => exact p.elim
    | succ n =>
      unfold whileP at p
      refine ts_bind (k := fun b S1 => if b = true then (match db ρ S1 with
        | .nx ρ' S' => whileP dc db n ρ' S'
        | .ct ρ' S' => whileP dc db n ρ' S'
        | .bk ρ' S' => .nx ρ' S'
        | r => r) else .nx ρ S1) hE hS p fun b S1 m1 H1 w s1 hE1 hS1 hr p1 => ?_
      cases hr
      cases b with
      | false =>
        rw [if_neg Bool.false_ne_true] at p1 ⊢
        exact p1.nx_here hS1 hE1
      | true =>
        rw [if_pos rfl] at p1 ⊢
        refine ⟨fun σ H => ∃ ρ S m, RelE (gm X T) m H ρ σ ∧ RelS (gm X T) m S H ∧ PostS (gm X T) W D m H (whileP dc db n ρ S), fun σ' H' h => ⟨n, Nat.lt_succ_self n, h⟩, ρ, S1, m1, hE1, hS1, ?_⟩
        cases hd : db ρ S1 with
        | nx ρ' S' => rw [hd] at p1; exact fun m' H' σ' s h3 h4 => ⟨ρ', S', m', h4, h3, PostS.step s p1⟩
        | ct ρ' S' => rw [hd] at p1; exact fun m' H' σ' s h3 h4 => ⟨ρ', S', m', h4, h3, PostS.step s p1⟩
        | bk ρ' S' => rw [hd] at p1; exact p1
        | rt v S' => rw [hd] at p1; exact p1
        | exc c fs ρ' S' => rw [hd] at p1; exact p1
        | bad => rw [hd] at p1; exact p1

/-! ### for -/
/-- an iterator that yields these items, whatever happens to the store -/
structure ItOk (g : Gm) (J : It) (items : List PV) (m₀ : Mm) (H₀ : Hp) : Prop where
  go : ∀ m H S i x, Emb m₀ H₀ m H → RelS g m S H → items[i]? = some x → J.go i H ∧ ∀ v H', J.yld i H v H' → Step m H m H' ∧ RelS g m S H' ∧ Rep g m H' x v
  stop : ∀ m H S i, Emb m₀ H₀ m H → RelS g m S H → items.length = i → J.stop i H
theorem Emb.trans {m m1 m2 : Mm} {H H1 H2 : Hp} (a : Emb m H m1 H1) (b : Emb m1 H1 m2 H2) : Emb m H m2 H2 :=
  ⟨fun n x h => b.get n x (a.get n x h), fun x o h e n => have q := a.keep x o h e n; b.keep x o q.1 q.2 n, fun x xs e => b.tup x xs (a.tup x xs e), fun x o u e => b.frz x o u (a.frz x o u e)⟩
theorem ItOk.step {g : Gm} {J : It} {items : List PV} {m m1 : Mm} {H H1 : Hp} (s : Step m H m1 H1) (k : ItOk g J items m H) : ItOk g J items m1 H1 :=
  ⟨fun m' H' S i x s' => k.go m' H' S i x (s.emb.trans s'), fun m' H' S i s' => k.stop m' H' S i (s.emb.trans s')⟩
abbrev CI (X : Cx) (T : Tb) (W : WX) (tg iter : Expr) (d : EnP → Sto → Res (List PV)) : Prop := PI X tg iter (tr (gm X T) W (fun m' H' items J => ItOk (gm X T) J items m' H') d)
theorem pi_imp {X : Cx} {tg e : Expr} {t t' : TI} (h : PI X tg e t) (w : ∀ σ H R, t' σ H R → t σ H R) : PI X tg e t' := ⟨fun pins s σ H R I q => h.run pins s σ H R I (w σ H R q)⟩
def forP (dg : DG) (db : EnP → Sto → SR) : List PV → EnP → Sto → SR
  | [], ρ, S => .nx ρ S
  | x :: xs, ρ, S => sE (dg x ρ S) ρ fun ρ1 S1 => (match db ρ1 S1 with
      | .nx ρ' S' => forP dg db xs ρ' S'
      | .ct ρ' S' => forP dg db xs ρ' S'
      | .bk ρ' S' => .nx ρ' S'
      | r => r)
def dFor (di : EnP → Sto → Res (List PV)) (dg : DG) (db : EnP → Sto → SR) : EnP → Sto → SR := fun ρ S => sE (di ρ S) ρ fun items S1 => forP dg db items ρ S1
theorem cs_for {X : Cx} {T : Tb} {W : WX} {pos : Pos} {tg iter : Expr} {body : List Stmt} {di : EnP → Sto → Res (List PV)} {dg : DG} {db : EnP → Sto → SR} (hp : PassesOwn (model X.prog X.w) X.A X.env X.xe) (hc : X.calm = true)
    (hi : CI X T W tg iter di) (hg : CG X T W tg dg) (hb : CSs X T W body db) (hs : ∀ x, foldedSetIterable iter X.env x = pure x := by intro _; rfl) : CS X T W (.For tg iter body [] pos) (dFor di dg db) :=
  ps_imp (ps_for hp hc hi hg hb hs) fun D σ H ⟨ρ, S, m, hE, hS, p⟩ => ts_bind (k := fun items S1 => forP dg db items ρ S1) hE hS p fun items S1 m1 H1 J s1 hE1 hS1 hJ p1 => by
    refine ⟨fun i n σ H => ∃ ρ S m, Step m1 H1 m H ∧ RelE (gm X T) m H ρ σ ∧ RelS (gm X T) m S H ∧ (n = items.length - i ∧ i ≤ items.length) ∧ PostS (gm X T) W D m H (forP dg db (items.drop i) ρ S), ⟨_, ρ, S1, m1, Step.refl _ _, hE1, hS1, ⟨rfl, Nat.zero_le _⟩, p1⟩, ?_⟩
    rintro i n σ2 H2 ⟨ρ2, S2, m2, s2, hE2, hS2, ⟨rfl, hle⟩, p2⟩
    by_cases hlt : i < items.length
    · right
      have ei : items[i]? = some items[i] := List.getElem?_eq_getElem hlt
      obtain ⟨hgo, hy⟩ := hJ.go m2 H2 S2 i items[i] s2.emb hS2 ei
      refine ⟨hgo, fun σ H => ∃ ρ S m, Step m1 H1 m H ∧ RelE (gm X T) m H ρ σ ∧ RelS (gm X T) m S H ∧ PostS (gm X T) W D m H (forP dg db (items.drop (i + 1)) ρ S), fun σ' H' ⟨ρ', S', m', a, b, c, d⟩ => ⟨items.length - (i + 1), by omega, ρ', S', m', a, b, c, ⟨rfl, hlt⟩, d⟩, fun v H3 y => ?_⟩
      obtain ⟨s3, hS3, hr3⟩ := hy v H3 y
      rw [List.drop_eq_getElem_cons hlt] at p2
      unfold forP at p2
      refine ⟨items[i], ρ2, S2, m2, hr3, hE2.step s3, hS3, ?_⟩
      have p3 := PostS.step s3 p2
      cases hd : dg items[i] ρ2 S2 with
      | ok ρ' S' =>
        rw [hd] at p3
        refine fun m4 H4 σ4 s4 hS4 hE4 => ⟨ρ', S', m4, hE4, hS4, ?_⟩
        have p4 := PostS.step s4 (show PostS (gm X T) W D m2 H3 (match db ρ' S' with
          | .nx ρ' S' => forP dg db (items.drop (i + 1)) ρ' S'
          | .ct ρ' S' => forP dg db (items.drop (i + 1)) ρ' S'
          | .bk ρ' S' => .nx ρ' S'
          | r => r) from p3)
        have s24 : Step m1 H1 m4 H4 := (s2.trans s3).trans s4
        cases hq : db ρ' S' with
        | nx ρ5 S5 => rw [hq] at p4; exact fun m5 H5 σ5 s5 h5 h6 => ⟨ρ5, S5, m5, s24.trans s5, h6, h5, PostS.step s5 p4⟩
        | ct ρ5 S5 => rw [hq] at p4; exact fun m5 H5 σ5 s5 h5 h6 => ⟨ρ5, S5, m5, s24.trans s5, h6, h5, PostS.step s5 p4⟩
        | bk ρ5 S5 => rw [hq] at p4; exact p4
        | rt v5 S5 => rw [hq] at p4; exact p4
        | exc c fs ρ5 S5 => rw [hq] at p4; exact p4
        | bad => rw [hq] at p4; exact p4
      | exc c fs S' => rw [hd] at p3; exact fun m4 H4 cls dd s4 h4 h5 => p3 m4 H4 σ2 cls dd s4 h4 ((hE2.step s3).step s4) h5
      | bad => rw [hd] at p3; exact p3.elim
    · left
      refine ⟨hJ.stop m2 H2 S2 i s2.emb hS2 (by omega), ?_⟩
      rw [List.drop_eq_nil_of_le (by omega)] at p2
      exact PostS.nx_here p2 hS2 hE2
end Mi
end
section
set_option Elab.async false
set_option linter.all false
set_option maxRecDepth 100000
set_option maxHeartbeats 2000000
namespace Mi
open PySem PySem.Spec PyProof.Rows L2

/-! ### what is walked -/
def srcP : PV → Option (List PV)
  | .tup xs => some xs
  | .ct xs => some xs
  | .nl xs => some xs
  | .fl xs => some xs
  | _ => none
def srcT : PV → Bool
  | .tup _ => true
  | .ct _ => true
  | _ => false
def SqX (K : PySem.W.Frag) (b : Bool) (H : Hp) (a : Addr) (vs : List V) : Prop := if b = true then SqT K H a vs else SqL K H a vs
theorem src_rep {g : Gm} {m : Mm} {H : Hp} {x : PV} {v : V} {xs : List PV} (r : Rep g m H x v) (e : srcP x = some xs) : ∃ a vs, v = .ref a ∧ SqX g.K (srcT x) H a vs ∧ RepL g m H xs vs := by
  cases x with
  | tup ys =>
    cases e
    obtain ⟨a, vs, e, h1, h2⟩ := tup_rep r
    exact ⟨a, vs, e, h1, h2⟩
  | ct ys =>
    cases e
    obtain ⟨a, vs, e, h1, h2⟩ := ct_rep r
    exact ⟨a, vs, e, h1, h2⟩
  | nl ys =>
    cases e
    unfold Rep at r
    obtain ⟨a, vs, e, _, h1, h2⟩ := r
    exact ⟨a, vs, e, .inl (.inl h1), h2⟩
  | fl ys =>
    cases e
    unfold Rep at r
    obtain ⟨a, vs, e, h1, h2⟩ := r
    refine ⟨a, vs, e, ?_, h2⟩
    rcases h1 with ⟨o, h1⟩ | h1
    · exact .inl (.inr ⟨o, h1⟩)
    · rcases h1 with h1 | h1
      · rcases h1 with h1 | ⟨o, h1⟩ <;> cases h1
      · exact .inr h1
  | _ => cases e
def It1 (K : PySem.W.Frag) (b : Bool) (a : Addr) : It := if b = true then Itt K a else Itl K a
theorem itOk_src {g : Gm} {m : Mm} {H : Hp} {x : PV} {a : Addr} {xs : List PV} (r : Rep g m H x (.ref a)) (e : srcP x = some xs) : ItOk g (It1 g.K (srcT x) a) xs m H := by
  refine ⟨fun m1 H1 S i y s hS ey => ?_, fun m1 H1 S i s hS hl => ?_⟩
  · obtain ⟨b, vs, eb, h1, h2⟩ := src_rep (Rep.emb s _ _ r) e
    cases eb
    obtain ⟨w, ew, rw_⟩ := h2.get ey
    unfold It1
    unfold SqX at h1
    cases hb : srcT x with
    | true =>
      rw [hb, if_pos rfl] at h1
      rw [if_pos rfl]
      refine ⟨⟨vs, w, h1, ew⟩, fun v H' ⟨eH, hv⟩ => ?_⟩
      subst eH
      have q := hv vs h1
      rw [ew] at q
      cases q
      exact ⟨Step.refl _ _, hS, rw_⟩
    | false =>
      rw [hb, if_neg Bool.false_ne_true] at h1
      rw [if_neg Bool.false_ne_true]
      refine ⟨⟨vs, w, h1, ew⟩, fun v H' ⟨eH, hv⟩ => ?_⟩
      subst eH
      have q := hv vs h1
      rw [ew] at q
      cases q
      exact ⟨Step.refl _ _, hS, rw_⟩
  · obtain ⟨b, vs, eb, h1, h2⟩ := src_rep (Rep.emb s _ _ r) e
    cases eb
    unfold It1
    unfold SqX at h1
    cases hb : srcT x with
    | true =>
      rw [hb, if_pos rfl] at h1
      rw [if_pos rfl]
      exact ⟨vs, h1, by rw [← h2.length]; exact Nat.le_of_eq hl⟩
    | false =>
      rw [hb, if_neg Bool.false_ne_true] at h1
      rw [if_neg Bool.false_ne_true]
      exact ⟨vs, h1, by rw [← h2.length]; exact Nat.le_of_eq hl⟩
/-- the signs of a text -/
def signs (s : Str) : List PV := s.cps.toList.map fun c => .str ⟨#[c]⟩
theorem itOk_str {g : Gm} {m : Mm} {H : Hp} (s : Str) : ItOk g (Its s) (signs s) m H := by
  refine ⟨fun m1 H1 S i y st hS ey => ?_, fun m1 H1 S i st hS hl => ?_⟩
  · unfold signs at ey
    rw [List.getElem?_map] at ey
    cases e : s.cps.toList[i]? with
    | none => rw [e] at ey; cases ey
    | some c =>
      rw [e] at ey
      cases ey
      have e2 : s.cps[i]? = some c := by rw [← Array.getElem?_toList]; exact e
      have hl : i < s.cps.size := by
        have := (Array.getElem?_eq_some_iff.mp e2).1
        exact this
      refine ⟨hl, fun v H' ⟨eH, c', hc, ev⟩ => ?_⟩
      subst eH
      rw [e2] at hc
      cases hc
      rw [ev]
      exact ⟨Step.refl _ _, hS, mk_str _⟩
  · unfold signs at hl
    rw [List.length_map, Array.length_toList] at hl
    exact Nat.le_of_eq hl
def walkP (x : PV) : Option (List PV) := match x with
  | .str s => some (signs s)
  | x => srcP x
def iSeq (d : EnP → Sto → Res PV) : EnP → Sto → Res (List PV) := fun ρ S => (d ρ S).bind fun x S1 => match walkP x with
  | some xs => .ok xs S1
  | none => .bad
theorem pi_or {X : Cx} {tg e : Expr} {t1 t2 : TI} (h1 : PI X tg e t1) (h2 : PI X tg e t2) : PI X tg e (fun σ H R => t1 σ H R ∨ t2 σ H R) := ⟨fun pins s σ H R I h => by
  rcases h with h | h
  · exact h1.run pins s σ H R I h
  · exact h2.run pins s σ H R I h⟩
/-- tr_bind, the first reading's own answer known -/
theorem tr_bindE {α β α' β' : Type} {g : Gm} {W : WX} {R : Mm → Hp → α → β → Prop} {R' : Mm → Hp → α' → β' → Prop} {d : EnP → Sto → Res α} {f : α → EnP → Sto → Res α'} {σ : L2.St} {H : Hp} {Q : β' → Hp → Prop} {ρ : EnP} {S : Sto} {m : Mm}
    (hE : RelE g m H ρ σ) (hS : RelS g m S H) (p : PostR g W σ m H R' Q ((d ρ S).bind fun a S1 => f a ρ S1)) {Q1 : β → Hp → Prop}
    (h : ∀ a S1 m1 H1 w, d ρ S = .ok a S1 → Step m H m1 H1 → RelE g m1 H1 ρ σ → RelS g m1 S1 H1 → R m1 H1 a w → PostR g W σ m1 H1 R' Q (f a ρ S1) → Q1 w H1) : tr g W R d σ H Q1 := by
  refine ⟨ρ, S, m, hE, hS, ?_⟩
  cases hd : d ρ S with
  | ok a S1 =>
    rw [hd] at p
    exact fun m' H' w s h1 h2 => h a S1 m' H' w hd s (hE.step s) h1 h2 (PostR.step s p)
  | exc c fs S1 =>
    rw [hd] at p
    exact fun m' H' cls dd s h1 h2 => p m' H' cls dd s h1 h2
  | bad =>
    rw [hd] at p
    exact p.elim
section
variable {X : Cx} {T : Tb} {W : WX} {pos tpos p : Pos} {e e2 tg : Expr} {d d2 : EnP → Sto → Res PV} {dl : EnP → Sto → Res (List PV)}
theorem ci_seq (h : CE X T W e d) : CI X T W tg e (iSeq d) :=
  pi_imp (pi_or (pi_or (pi_tup h) (pi_list h)) (pi_str h)) fun σ H R ⟨ρ, S, m, hE, hS, p⟩ => by
    cases hd : d ρ S with
    | bad =>
      unfold iSeq at p
      rw [hd] at p
      exact p.elim
    | exc c fs S1 =>
      refine .inl (.inl ?_)
      exact tr_bindE (f := fun (x : PV) (_ : EnP) (S1 : Sto) => match walkP x with | some xs => Res.ok xs S1 | none => .bad) hE hS p fun a S1 m1 H1 w ed => by rw [hd] at ed; cases ed
    | ok x0 S0 =>
      have go : ∀ (b : Bool), srcT x0 = b → (∀ s, x0 ≠ .str s) → tv (gm X T) W d σ H fun x H1 => ∃ a, x = .ref a ∧ (∃ xs, SqX X.K b H1 a xs) ∧ R (It1 X.K b a) H1 := fun b hb hn =>
        tr_bindE (f := fun (x : PV) (_ : EnP) (S1 : Sto) => match walkP x with | some xs => Res.ok xs S1 | none => .bad) hE hS p fun a S1 m1 H1 w ed s1 hE1 hS1 hr1 p1 => by
          rw [hd] at ed
          cases ed
          have ew : walkP x0 = srcP x0 := by
            cases x0 with
            | str s => exact absurd rfl (hn s)
            | _ => rfl
          cases es : srcP x0 with
          | none => rw [ew, es] at p1; exact p1.elim
          | some xs =>
            rw [ew, es] at p1
            obtain ⟨a, vs, rfl, h1, h2⟩ := src_rep hr1 es
            refine ⟨a, rfl, ⟨vs, by rw [← hb]; exact h1⟩, ?_⟩
            have q := itOk_src hr1 es
            rw [hb] at q
            exact PostR.here (a := xs) p1 hS1 q
      cases x0 with
      | tup xs =>
        refine .inl (.inl ?_)
        have := go true rfl (fun s z => by cases z)
        exact this
      | ct xs =>
        refine .inl (.inl ?_)
        have := go true rfl (fun s z => by cases z)
        exact this
      | str s =>
        refine .inr ?_
        refine tr_bindE (f := fun (x : PV) (_ : EnP) (S1 : Sto) => match walkP x with | some xs => Res.ok xs S1 | none => .bad) hE hS p fun a S1 m1 H1 w ed s1 hE1 hS1 hr1 p1 => ?_
        rw [hd] at ed
        cases ed
        exact ⟨s, rep_str hr1, PostR.here (a := signs s) p1 hS1 (itOk_str s)⟩
      | nl xs => exact .inl (.inr (go false rfl (fun s z => by cases z)))
      | fl xs => exact .inl (.inr (go false rfl (fun s z => by cases z)))
      | _ =>
        unfold iSeq at p
        rw [hd] at p
        exact p.elim
/-! range -/
def upTo (lo : Int) (n : Nat) : List PV := (List.range n).map fun i => .int (lo + (i : Nat))
theorem itOk_rng {g : Gm} {m : Mm} {H : Hp} (lo : Int) (n : Nat) : ItOk g (Itr lo n) (upTo lo n) m H := by
  refine ⟨fun m1 H1 S i y st hS ey => ?_, fun m1 H1 S i st hS hl => ?_⟩
  · unfold upTo at ey
    rw [List.getElem?_map] at ey
    by_cases hi : i < n
    · rw [List.getElem?_range hi] at ey
      cases ey
      refine ⟨hi, fun v H' ⟨eH, ev⟩ => ?_⟩
      subst eH
      rw [ev]
      exact ⟨Step.refl _ _, hS, mk_int _⟩
    · rw [List.getElem?_eq_none (by simpa using hi)] at ey
      cases ey
  · unfold upTo at hl
    rw [List.length_map, List.length_range] at hl
    exact Nat.le_of_eq hl
def iRange (dl : EnP → Sto → Res (List PV)) : EnP → Sto → Res (List PV) := fun ρ S => (dl ρ S).bind fun xs S1 => match xs with
  | [.int j] => if -1000000 ≤ j ∧ j ≤ 1000000 then .ok (upTo 0 j.toNat) S1 else .bad
  | [.int i, .int j] => if -1000000 ≤ i ∧ i ≤ 1000000 ∧ -1000000 ≤ j ∧ j ≤ 1000000 then .ok (upTo i (j - i).toNat) S1 else .bad
  | _ => .bad
theorem ci_range1 (hg : Gl X "range") (hm : X.mg "range" = none) (ha : CA X T W [e] dl) (hs : starEach [e] X.env = [(false, eval e X.env)] := by rfl) (hl : ∀ ρ S xs S1, dl ρ S = .ok xs S1 → xs.length = 1) : CI X T W tg (.Call (.Name "range" p) [e] [] pos) (iRange dl) :=
  pi_imp (pi_range1 hg hm ha hs) fun σ H R ⟨ρ, S, m, hE, hS, p⟩ =>
    tr_bindE (f := fun (xs : List PV) (_ : EnP) (S1 : Sto) => match xs with
      | [.int j] => if -1000000 ≤ j ∧ j ≤ 1000000 then Res.ok (upTo 0 j.toNat) S1 else .bad
      | [.int i, .int j] => if -1000000 ≤ i ∧ i ≤ 1000000 ∧ -1000000 ≤ j ∧ j ≤ 1000000 then .ok (upTo i (j - i).toNat) S1 else .bad
      | _ => .bad) hE hS p fun xs S1 m1 H1 ws ed s1 hE1 hS1 hr1 p1 => by
      have el := hl _ _ _ _ ed
      split at p1
      · rename_i j
        split at p1
        · rename_i h
          obtain ⟨v, rfl, r1⟩ := one_rep hr1
          cases rep_int r1
          exact ⟨j, rfl, by omega, by omega, PostR.here (a := upTo 0 j.toNat) p1 hS1 (itOk_rng 0 j.toNat)⟩
        · exact p1.elim
      · simp at el
      · exact p1.elim
theorem ci_range2 (hg : Gl X "range") (hm : X.mg "range" = none) (ha : CA X T W [e, e2] dl) (hs : starEach [e, e2] X.env = [(false, eval e X.env), (false, eval e2 X.env)] := by rfl) (hs2 : starEach [e2] X.env = [(false, eval e2 X.env)] := by rfl) (hl : ∀ ρ S xs S1, dl ρ S = .ok xs S1 → xs.length = 2) : CI X T W tg (.Call (.Name "range" p) [e, e2] [] pos) (iRange dl) :=
  pi_imp (pi_range2 hg hm ha hs hs2) fun σ H R ⟨ρ, S, m, hE, hS, p⟩ =>
    tr_bindE (f := fun (xs : List PV) (_ : EnP) (S1 : Sto) => match xs with
      | [.int j] => if -1000000 ≤ j ∧ j ≤ 1000000 then Res.ok (upTo 0 j.toNat) S1 else .bad
      | [.int i, .int j] => if -1000000 ≤ i ∧ i ≤ 1000000 ∧ -1000000 ≤ j ∧ j ≤ 1000000 then .ok (upTo i (j - i).toNat) S1 else .bad
      | _ => .bad) hE hS p fun xs S1 m1 H1 ws ed s1 hE1 hS1 hr1 p1 => by
      have el := hl _ _ _ _ ed
      split at p1
      · simp at el
      · rename_i i j
        split at p1
        · rename_i h
          obtain ⟨v, u, rfl, r1, r2⟩ := two_rep hr1
          cases rep_int r1
          cases rep_int r2
          exact ⟨i, j, rfl, ⟨by omega, by omega, by omega, by omega⟩, PostR.here (a := upTo i (j - i).toNat) p1 hS1 (itOk_rng i _)⟩
        · exact p1.elim
      · exact p1.elim
end
theorem dNil_len {ρ : EnP} {S S1 : Sto} {xs : List PV} (h : dNil ρ S = .ok xs S1) : xs.length = 0 := by cases h; rfl
theorem dCons_len {da : EnP → Sto → Res PV} {dr : EnP → Sto → Res (List PV)} {n : Nat} (hr : ∀ ρ S xs S1, dr ρ S = .ok xs S1 → xs.length = n) : ∀ ρ S xs S1, dCons da dr ρ S = .ok xs S1 → xs.length = n + 1 := fun ρ S xs S1 h => by
  unfold dCons at h
  cases e1 : da ρ S with
  | bad => rw [e1] at h; cases h
  | exc c fs S2 => rw [e1] at h; cases h
  | ok x S2 =>
    rw [e1] at h
    have h : (dr ρ S2).bind (fun xs S2 => Res.ok (x :: xs) S2) = .ok xs S1 := h
    cases e2 : dr ρ S2 with
    | bad => rw [e2] at h; cases h
    | exc c fs S3 => rw [e2] at h; cases h
    | ok ys S3 =>
      rw [e2] at h
      cases h
      rw [List.length_cons, hr _ _ _ _ e2]
theorem len1 {da : EnP → Sto → Res PV} : ∀ ρ S xs S1, dCons da dNil ρ S = .ok xs S1 → xs.length = 1 := dCons_len fun _ _ _ _ h => dNil_len h
theorem len2 {da db : EnP → Sto → Res PV} : ∀ ρ S xs S1, dCons da (dCons db dNil) ρ S = .ok xs S1 → xs.length = 2 := dCons_len len1
end Mi
end
section
set_option Elab.async false
set_option linter.all false
set_option maxRecDepth 100000
set_option maxHeartbeats 2000000
namespace Mi
open PySem PySem.Spec PyProof.Rows L2

/-! ### zip of two, each a list or a tuple -/
def ItZ (K : PySem.W.Frag) (b1 b2 : Bool) (a1 a2 : Addr) : It :=
  ⟨fun i H => ∃ (xs ys : List V) (x y : V), SqX K b1 H a1 xs ∧ SqX K b2 H a2 ys ∧ xs[i]? = some x ∧ ys[i]? = some y,
    fun i H v H' => ∃ T x y, v = .ref T ∧ H T = none ∧ H' = upd H T (.tup [x, y]) ∧ (∀ xs, SqX K b1 H a1 xs → xs[i]? = some x) ∧ ∀ ys, SqX K b2 H a2 ys → ys[i]? = some y,
    fun i H => ∃ xs ys : List V, SqX K b1 H a1 xs ∧ SqX K b2 H a2 ys ∧ i ≤ xs.length ∧ i ≤ ys.length ∧ (xs.length = i ∨ ys.length = i)⟩
def itAt (b : Bool) (h : Heap) (it a : Addr) (i : Nat) : Prop := if b = true then h.IsTupleIter it a i else h.IsListIter it a i
theorem itAt.keep {b : Bool} {h h' : Heap} {it a : Addr} {i : Nat} (x : itAt b h it a i) (k : ∀ o, h.get? it = some o → h'.get? it = some o) : itAt b h' it a i := by
  unfold itAt at x ⊢
  cases b with
  | true => rw [if_pos rfl] at x ⊢; exact x.at k
  | false => rw [if_neg Bool.false_ne_true] at x ⊢; exact x.at k
theorem itAt.obj {b : Bool} {h : Heap} {it a : Addr} {i : Nat} (x : itAt b h it a i) : ∃ o, h.get? it = some o ∧ ∀ v, o.data ≠ .cell v := by
  unfold itAt at x
  cases b with
  | true => rw [if_pos rfl] at x; obtain ⟨o, e, _, d⟩ := x; exact ⟨o, e, fun v z => by rw [d] at z; cases z⟩
  | false => rw [if_neg Bool.false_ne_true] at x; obtain ⟨o, e, _, d⟩ := x; exact ⟨o, e, fun v z => by rw [d] at z; cases z⟩
/-- a source, and its iterator, drawn from -/
theorem draws_of {X : Cx} {pins : List (Addr × Obj)} {σ : L2.St} {H : Hp} {s : Shared} {b : Bool} {a it : Addr} {vs : List V} (hh : X.A.handled = none) (I : Inv X pins σ H s) (h : SqX X.K b H a vs) (hne : a ≠ it) :
    ∃ (its : List Value) (St : Nat → Heap → Prop), Vals vs its ∧ a < s.heap.objs.size ∧ Draws X.prog X.w X.A.in1 it [it, a] its.toArray.size (fun i v => its.toArray[i]? = some v) St ∧
      (∀ i, itAt b s.heap it a i → St i s.heap) ∧ ∀ i h', St i h' → itAt b h' it a i := by
  unfold SqX at h
  cases b with
  | true =>
    rw [if_pos rfl] at h
    obtain ⟨its, rv, p, _⟩ := I.tuple h
    have p2 : s.heap.IsTuple a its.toArray := p
    obtain ⟨o, ho, _⟩ := id p
    refine ⟨its, _, rv, Heap.lt_size ho, Draws.tuple (A := X.A.in1) hh it a hne its.toArray, fun i z => ⟨?_, p2⟩, fun i h' z => ?_⟩
    · unfold itAt at z; rw [if_pos rfl] at z; exact z
    · unfold itAt; rw [if_pos rfl]; exact z.1
  | false =>
    rw [if_neg Bool.false_ne_true] at h
    obtain ⟨its, rv, p, _⟩ := I.list h
    refine ⟨its, _, rv, p.lt, Draws.list (A := X.A.in1) hh it a hne its.toArray, fun i z => ⟨?_, p.isList⟩, fun i h' z => ?_⟩
    · unfold itAt at z; rw [if_neg Bool.false_ne_true] at z; exact z
    · unfold itAt; rw [if_neg Bool.false_ne_true]; exact z.1
theorem sqX_inj {X : Cx} {pins : List (Addr × Obj)} {σ : L2.St} {H : Hp} {s : Shared} {b : Bool} {a : Addr} {xs ys : List V} (I : Inv X pins σ H s) (h : SqX X.K b H a xs) (h' : SqX X.K b H a ys) : xs = ys := by
  unfold SqX at h h'
  cases b with
  | true => rw [if_pos rfl] at h h'; exact I.tuple_inj h h'
  | false => rw [if_neg Bool.false_ne_true] at h h'; exact I.list_inj h h'
theorem sep_of {a b z TI TO i1 i2 : Addr} (D : ZipApart z TI TO i1 i2 a b) : ZipSep2 z TI TO i1 i2 [i1, a] [i2, b] :=
  { TIz := D.TIz, TOz := D.TOz, TITO := D.TITO, TIi1 := D.TIi1, mem1 := by simp, zf1 := by simp [Ne.symm D.i1z, Ne.symm D.l1z], Tf1 := by simp [D.TOi1, Ne.symm D.l1TO],
    TIi2 := D.TIi2, mem2 := by simp, zf2 := by simp [Ne.symm D.i2z, Ne.symm D.l2z], Tf2 := by simp [D.TOi2, Ne.symm D.l2TO], sep1_2 := by simp [D.i12, Ne.symm D.l2i1], sep2_1 := by simp [Ne.symm D.i12, Ne.symm D.l1i2] }
theorem turn_Z {P : Program} {w : World} {K : PySem.W.Frag} {elts : List Expr} {kk : Nat} {tpos : Pos} {b1 b2 : Bool} {a b z TI TO i1 i2 : Addr} (D : ZipApart z TI TO i1 i2 a b) :
    Turn P w K (.Tuple elts kk tpos) (ItZ K b1 b2 a b) [z, TI, TO, i1, i2] z (fun i h => IsZip h z TI TO .none ∧ IsPair h TI (.ref i1) (.ref i2) ∧ (∃ x y, IsPair h TO x y) ∧ itAt b1 h i1 a i ∧ itAt b2 h i2 b i) where
  mem := by simp
  obj := fun i h st c hc => by
    obtain ⟨hz, hTI, ⟨x, y, hTO⟩, h1, h2⟩ := st
    have e' : c = z ∨ c = TI ∨ c = TO ∨ c = i1 ∨ c = i2 := by simpa using hc
    rcases e' with q | q | q | q | q
    · rw [q]; exact ⟨_, hz, fun v q => nomatch q⟩
    · rw [q]; exact ⟨_, hTI, fun v q => nomatch q⟩
    · rw [q]; exact ⟨_, hTO, fun v q => nomatch q⟩
    · rw [q]; exact h1.obj
    · rw [q]; exact h2.obj
  keep := fun i h h' st k => by
    obtain ⟨hz, hTI, ⟨x, y, hTO⟩, h1, h2⟩ := st
    exact ⟨k z (by simp) _ hz, k TI (by simp) _ hTI, ⟨x, y, k TO (by simp) _ hTO⟩, h1.keep fun o q => k i1 (by simp) o q, h2.keep fun o q => k i2 (by simp) o q⟩
  item := by
    intro X hP hw hK hc i pins s σ H E I hf st hg
    subst hP hw hK
    obtain ⟨hz, hTI, ⟨x0, y0, hTO⟩, h1, h2⟩ := st
    obtain ⟨xs, ys, x, y, hqx, hqy, hx, hy⟩ := hg
    obtain ⟨its, St1, rv, la, D1, in1, out1⟩ := draws_of (it := i1) (I.ok.hd hc) I hqx D.l1i1
    obtain ⟨its2, St2, rv2, lb, D2, in2, out2⟩ := draws_of (it := i2) (I.ok.hd hc) I hqy D.l2i2
    obtain ⟨u, hu, ru⟩ := rv.get hx
    obtain ⟨u2, hu2, ru2⟩ := rv2.get hy
    have hzl : z < s.heap.objs.size := Heap.lt_size hz
    have n1 : i < its.toArray.size := by
      rw [List.size_toArray, ← rv.length]
      exact (List.getElem?_eq_some_iff.mp hx).1
    have n2 : i < its2.toArray.size := by
      rw [List.size_toArray, ← rv2.length]
      exact (List.getElem?_eq_some_iff.mp hy).1
    refine wpAny_pyNext_zipD2_item (sep_of D) D1 D2 hz hTI hTO (in1 i h1) (in2 i h2) n1 n2 fun x1 x2 h' tk e1 e2 z' TO' st1' st2' hT hsz hk => ?_
    have ex1 : x1 = u := by
      have q : its.toArray[i]? = some u := by simpa using hu
      rw [q] at e1
      cases e1
      rfl
    have ex2 : x2 = u2 := by
      have q : its2.toArray[i]? = some u2 := by simpa using hu2
      rw [q] at e2
      cases e2
      rfl
    subst ex1 ex2
    refine ⟨_, rfl, wpAny_letOwnedTupleGo_zip (s := { s with heap := h', toks := tk }) z' fun h'' z'' sb => ?_⟩
    have hT2 : h''.get? s.heap.objs.size = some { cls := .type "tuple", data := .seq #[x1, x2] } := (sb.2 _ (Nat.ne_of_gt hzl)).trans hT
    have new : ObjOk X.prog X.w (upd H s.heap.objs.size (.tup [x, y])) h'' s.heap.objs.size (.tup [x, y]) :=
      ⟨by show 2 ≤ sizeLine; decide, [x1, x2], .cons ru (.cons ru2 .nil), ⟨_, hT2, rfl, _, rfl⟩⟩
    have I1 : Inv X pins σ (upd H s.heap.objs.size (.tup [x, y])) { s with heap := h'', toks := tk } :=
      I.turnedNew (t' := tk) (ch := [z, TI, TO, i1, i2]) (fun c o hb q => (sb.2 c (fun q' => hb (by simp [q']))).trans (hk c o (fun q' => hb (by simp [q'])) (fun q' => hb (by simp [q'])) (fun q' => hb (by simp [q'])) (fun q' => hb (by simp [q'])) q)) hf (Nat.le_refl _) new
    refine ⟨.ref s.heap.objs.size, _, I1, rfl, ⟨_, x, y, rfl, I.hok.fresh (Nat.le_refl _), rfl, fun l hl => by rw [sqX_inj I hl hqx]; exact hx, fun l hl => by rw [sqX_inj I hl hqy]; exact hy⟩, ⟨z'', ?_, ⟨x1, x2, ?_⟩, ?_, ?_⟩, fun c hcm => ?_⟩
    · exact (sb.2 _ D.TIz).trans (hk _ _ D.TIz D.TITO D.TIi1 D.TIi2 hTI)
    · exact (sb.2 _ D.TOz).trans TO'
    · exact (out1 _ _ st1').keep fun o q => (sb.2 _ D.i1z).trans q
    · exact (out2 _ _ st2').keep fun o q => (sb.2 _ D.i2z).trans q
    · have hlt : c < s.heap.objs.size := by
        have e' : c = z ∨ c = TI ∨ c = TO ∨ c = i1 ∨ c = i2 := by simpa using hcm
        rcases e' with q | q | q | q | q
        · rw [q]; exact hzl
        · rw [q]; exact Heap.lt_size hTI
        · rw [q]; exact Heap.lt_size hTO
        · rw [q]; obtain ⟨_, e1, _⟩ := h1.obj; exact Heap.lt_size e1
        · rw [q]; obtain ⟨_, e2, _⟩ := h2.obj; exact Heap.lt_size e2
      rw [upd_ne (Nat.ne_of_lt hlt)]
      exact (hf c hcm).1
  done := by
    intro X hP hw hK hc i pins s σ H E I hf st hg
    subst hP hw hK
    obtain ⟨hz, hTI, ⟨x0, y0, hTO⟩, h1, h2⟩ := st
    obtain ⟨xs, ys, hqx, hqy, l1, l2, hend⟩ := hg
    obtain ⟨its, St1, rv, la, D1, in1, out1⟩ := draws_of (it := i1) (I.ok.hd hc) I hqx D.l1i1
    obtain ⟨its2, St2, rv2, lb, D2, in2, out2⟩ := draws_of (it := i2) (I.ok.hd hc) I hqy D.l2i2
    have e1 := rv.length
    have e2 := rv2.length
    exact wpAny_pyNext_zipD2_end (sep_of D) D1 D2 hz hTI hTO (in1 i h1) (in2 i h2) (by simp; omega) (by simp; omega) (by simp; omega) fun h' tk hk => ⟨rfl, I.turnedL (t' := tk) (ch := [z, TI, TO, i1, i2]) (fun c o hb q =>
      hk c o (fun q' => hb (by simp [q'])) (fun q' => hb (by simp [q'])) (fun q' => hb (by simp [q'])) (fun q' => hb (by simp [q'])) q) hf⟩
  self := fun A i s Q E st h => wpAny_pyIter_zip st.1 h

/-- iter of a source begins -/
theorem begins_of {X : Cx} {pins : List (Addr × Obj)} {σ : L2.St} {H : Hp} {s : Shared} {b : Bool} {a : Addr} {vs : List V} (I : Inv X pins σ H s) (h : SqX X.K b H a vs) :
    ∃ (o : Obj) (Hh : Heap → Prop), Begins (.ref a) o Hh ∧ Hh s.heap ∧ a < s.heap.objs.size ∧ ∀ (h' : Heap) it, h'.get? it = some o → itAt b h' it a 0 := by
  unfold SqX at h
  cases b with
  | true =>
    rw [if_pos rfl] at h
    obtain ⟨its, rv, p, _⟩ := I.tuple h
    obtain ⟨o, ho, _⟩ := id p
    exact ⟨_, _, begins_tuple a its.toArray, p, Heap.lt_size ho, fun h' it e => by unfold itAt; rw [if_pos rfl]; exact ⟨_, e, rfl, rfl⟩⟩
  | false =>
    rw [if_neg Bool.false_ne_true] at h
    obtain ⟨its, rv, p, _⟩ := I.list h
    exact ⟨_, _, begins_list a its.toArray, p.isList, p.lt, fun h' it e => by unfold itAt; rw [if_neg Bool.false_ne_true]; exact ⟨_, e, rfl, rfl⟩⟩
def iZipX (K : PySem.W.Frag) (ta : TA) : TI := fun σ H R => ta σ H fun vs H1 => ∃ b1 b2 a b xs ys, vs = [.ref a, .ref b] ∧ SqX K b1 H1 a xs ∧ SqX K b2 H1 b ys ∧ R (ItZ K b1 b2 a b) H1
theorem pi_zipX {X : Cx} {e e2 : Expr} {ta : TA} {p pos tpos : Pos} {elts : List Expr} {kk : Nat} (hg : Gl X "zip") (hm : X.mg "zip" = none) (ha : PA X [e, e2] ta)
    (hs : starEach [e, e2] X.env = (false, eval e X.env) :: starEach [e2] X.env := by rfl) (hpl : (backTo pos (starEach [e2] X.env)).any (·.1) = false := by rfl) :
    PI X (.Tuple elts kk tpos) (.Call (.Name "zip" p) [e, e2] [] pos) (iZipX X.K ta) := by
  refine ⟨fun pins s σ H R I h => ?_⟩
  refine Call_ (ld_blt I hg hm PyProof.Rows.boot_zip (PyProof.Rows.callWith_type1 (thn (ha.run pos pins s σ H _ I h) fun us s1 ⟨vs, H1, I1, r1, q1⟩ => ?_) hs hpl))
  obtain ⟨b1, b2, a, b, xs, ys, ex, hqx, hqy, q⟩ := q1
  subst ex
  cases r1 with
  | cons r rr =>
    cases rr with
    | cons r' rr =>
      cases rr
      cases r
      cases r'
      have fresh5 : ∀ c, c ∈ [s1.heap.objs.size + 4, s1.heap.objs.size + 2, s1.heap.objs.size + 3, s1.heap.objs.size, s1.heap.objs.size + 1] → FpOk X pins H1 c := fun c hcm => by
        have e' : c = s1.heap.objs.size + 4 ∨ c = s1.heap.objs.size + 2 ∨ c = s1.heap.objs.size + 3 ∨ c = s1.heap.objs.size ∨ c = s1.heap.objs.size + 1 := by simpa using hcm
        have hle : s1.heap.objs.size ≤ c := by
          rcases e' with z | z | z | z | z
          · rw [z]; exact Nat.le_add_right _ _
          · rw [z]; exact Nat.le_add_right _ _
          · rw [z]; exact Nat.le_add_right _ _
          · rw [z]; exact Nat.le_refl _
          · rw [z]; exact Nat.le_add_right _ _
        exact I1.fpOk hle (I1.hok.fresh hle)
      obtain ⟨o1, Hh1, B1, k1, la, at1⟩ := begins_of I1 hqx
      obtain ⟨o2, Hh2, B2, k2, lb, at2⟩ := begins_of I1 hqy
      refine zip_begins2 B1 B2 k1 k2 fun h' hz hTI hTO g1 g2 hsz hk => wpAny_pyIter_zip hz ?_
      have I2 : Inv X pins σ H1 { s1 with heap := h' } := I1.kept (t' := s1.toks) hk
      exact ⟨s1.heap.objs.size + 4, [s1.heap.objs.size + 4, s1.heap.objs.size + 2, s1.heap.objs.size + 3, s1.heap.objs.size, s1.heap.objs.size + 1], _, _, H1, rfl, I2, turn_Z (PySem.W.ktu_apart s1.heap.objs.size a b la lb), ⟨hz, hTI, ⟨_, _, hTO⟩, at1 _ _ g1, at2 _ _ g2⟩, fresh5, q⟩

def zipP (xs ys : List PV) : List PV := (xs.zip ys).map fun p => .tup [p.1, p.2]
theorem itOk_zip {g : Gm} {m : Mm} {H : Hp} {x y : PV} {a b : Addr} {xs ys : List PV} (r : Rep g m H x (.ref a)) (e : srcP x = some xs) (r' : Rep g m H y (.ref b)) (e' : srcP y = some ys) : ItOk g (ItZ g.K (srcT x) (srcT y) a b) (zipP xs ys) m H := by
  refine ⟨fun m1 H1 S i t s hS ey => ?_, fun m1 H1 S i s hS hl => ?_⟩
  · obtain ⟨b1, vs, eb, h1, h2⟩ := src_rep (Rep.emb s _ _ r) e
    cases eb
    obtain ⟨b2, us, eb, h1', h2'⟩ := src_rep (Rep.emb s _ _ r') e'
    cases eb
    unfold zipP at ey
    rw [List.getElem?_map] at ey
    cases e3 : (xs.zip ys)[i]? with
    | none => rw [e3] at ey; cases ey
    | some pq =>
      rw [e3] at ey
      cases ey
      obtain ⟨ex, ey⟩ := List.getElem?_zip_eq_some.mp e3
      obtain ⟨w, ew, r1⟩ := h2.get ex
      obtain ⟨w', ew', r2⟩ := h2'.get ey
      refine ⟨⟨vs, us, w, w', h1, h1', ew, ew'⟩, fun v H' ⟨TA, x', y', ev, hT, eH, f1, f2⟩ => ?_⟩
      have q1 := f1 vs h1
      have q2 := f2 us h1'
      rw [ew] at q1
      rw [ew'] at q2
      cases q1
      cases q2
      subst ev eH
      have st := step_new (m := m1) (o := HO.tup [w, w']) hT
      refine ⟨st, hS.new hT, ?_⟩
      unfold Rep
      exact ⟨_, _, rfl, .inl (.inl upd_same), (RepL.cons r1 (RepL.cons r2 RepL.nil)).step st⟩
  · obtain ⟨b1, vs, eb, h1, h2⟩ := src_rep (Rep.emb s _ _ r) e
    cases eb
    obtain ⟨b2, us, eb, h1', h2'⟩ := src_rep (Rep.emb s _ _ r') e'
    cases eb
    unfold zipP at hl
    rw [List.length_map, List.length_zip] at hl
    have e1 := h2.length
    have e2 := h2'.length
    exact ⟨vs, us, h1, h1', by omega, by omega, by omega⟩
def iZip2 (dl : EnP → Sto → Res (List PV)) : EnP → Sto → Res (List PV) := fun ρ S => (dl ρ S).bind fun xs S1 => match xs with
  | [x, y] => (match srcP x, srcP y with
    | some a, some b => .ok (zipP a b) S1
    | _, _ => .bad)
  | _ => .bad
section
variable {X : Cx} {T : Tb} {W : WX} {pos tpos p : Pos} {e e2 : Expr} {elts : List Expr} {kk : Nat} {dl : EnP → Sto → Res (List PV)}
theorem ci_zip (hg : Gl X "zip") (hm : X.mg "zip" = none) (ha : CA X T W [e, e2] dl) (hs : starEach [e, e2] X.env = (false, eval e X.env) :: starEach [e2] X.env := by rfl) (hpl : (backTo pos (starEach [e2] X.env)).any (·.1) = false := by rfl) :
    CI X T W (.Tuple elts kk tpos) (.Call (.Name "zip" p) [e, e2] [] pos) (iZip2 dl) :=
  pi_imp (pi_zipX hg hm ha hs hpl) fun σ H R ⟨ρ, S, m, hE, hS, p⟩ =>
    tr_bindE (f := fun (xs : List PV) (_ : EnP) (S1 : Sto) => match xs with
      | [x, y] => (match srcP x, srcP y with
        | some a, some b => Res.ok (zipP a b) S1
        | _, _ => .bad)
      | _ => .bad) hE hS p fun xs S1 m1 H1 ws ed s1 hE1 hS1 hr1 p1 => by
      split at p1
      · rename_i x y
        split at p1
        · rename_i a b e1 e2
          obtain ⟨v, u, rfl, r1, r2⟩ := two_rep hr1
          obtain ⟨a1, vs, rfl, k1, _⟩ := src_rep r1 e1
          obtain ⟨a2, us, rfl, k2, _⟩ := src_rep r2 e2
          exact ⟨_, _, a1, a2, vs, us, rfl, k1, k2, PostR.here (a := zipP a b) p1 hS1 (itOk_zip r1 e1 r2 e2)⟩
        · exact p1.elim
      · exact p1.elim
end
end Mi
end
section
set_option Elab.async false
set_option linter.all false
set_option maxRecDepth 100000
set_option maxHeartbeats 2000000
namespace Mi
open PySem PySem.Spec PyProof.Rows L2

/-! ### a list that is being made -/
def Mm.open_ (m : Mm) (D : Addr) : Mm := ⟨m.ix, D :: m.ex⟩
def Mm.shut (m : Mm) (D : Addr) : Mm := ⟨m.ix, m.ex.filter (· != D)⟩
theorem RelE.emw {g : Gm} {m m' : Mm} {H H' : Hp} {ρ : EnP} {σ : L2.St} (s : Emw m H m' H') (r : RelE g m H ρ σ) : RelE g m' H' ρ σ :=
  ⟨r.len, fun i v e => let ⟨w, e1, e2⟩ := r.at_ i v e; ⟨w, e1, Rep.emw s _ _ e2⟩⟩
theorem RelE.emb {g : Gm} {m m' : Mm} {H H' : Hp} {ρ : EnP} {σ : L2.St} (s : Emb m H m' H') (r : RelE g m H ρ σ) : RelE g m' H' ρ σ := RelE.emw s.emw r
section
variable {g : Gm} {m m1 : Mm} {S : Sto} {H H1 : Hp} {D : Addr} {avs us : List V}
theorem step_open (hD : H D = none) : Step m H (m.open_ D) (upd H D (HO.lst [])) :=
  ⟨⟨[], by simp [Mm.open_]⟩, fun a h => List.mem_cons_of_mem _ h, fun a h1 h2 _ => by
      rcases List.mem_cons.mp h1 with e | e
      · rw [e]; exact nil_of hD
      · exact absurd e h2,
    fun a h1 h2 => absurd h1 h2, (step_new hD (m := m)).keep, (step_new hD (m := m)).tup, (step_new hD (m := m)).frz⟩
theorem RelS.open_ (h : RelS g m S H) (hD : H D = none) : RelS g (m.open_ D) S (upd H D (HO.lst [])) :=
  ⟨h.len, h.nd, fun a ha => by
    rcases List.mem_cons.mp ha with e | e
    · rw [e]
      exact ⟨(h.fresh hD).1, _, upd_same, tr_lst⟩
    · exact ⟨(h.exs a e).1, (h.exs a e).2.imp fun vs q => ⟨by rw [upd_ne (ne_of_none q.1 hD)]; exact q.1, q.2⟩⟩, fun n xs e => by
    obtain ⟨a, vs, e1, e2, e3⟩ := h.at_ n xs e
    exact ⟨a, vs, e1, by rw [upd_ne (ne_of_none e2 hD)]; exact e2, RSO.step (step_open hD) e3⟩, tabs_new hD h.tab⟩
/-- one more item -/
theorem emb_ex (hm : D ∈ m.ex) (hD : H D = some (HO.lst avs)) : Emb m H m (upd H D (HO.lst us)) :=
  ⟨fun n a e => e, fun a o n e nt => ⟨n, by rw [upd_ne (fun q : a = D => n.2 (by rw [q]; exact hm))]; exact e⟩, fun a xs e => by rw [upd_ne (ne_of e hD (fun z => by cases z))]; exact e, fun a o u e => by rw [upd_ne (ne_of e hD (fun z => by cases z))]; exact e⟩
theorem RelS.ex_ (h : RelS g m S H) (hm : D ∈ m.ex) (hD : H D = some (HO.lst avs)) : RelS g m S (upd H D (HO.lst us)) :=
  ⟨h.len, h.nd, fun a ha => ⟨(h.exs a ha).1, by
      by_cases q : a = D
      · rw [q, upd_same]; exact ⟨_, rfl, tr_lst⟩
      · rw [upd_ne q]; exact (h.exs a ha).2⟩, fun n xs e => by
    obtain ⟨a, vs, e1, e2, e3⟩ := h.at_ n xs e
    have na : a ≠ D := fun q => (h.exs D hm).1 (by rw [← q]; exact List.mem_of_getElem? e1)
    exact ⟨a, vs, e1, by rw [upd_ne na]; exact e2, RSO.emb (emb_ex hm hD) e3⟩, tabs_write hD h.tab⟩
theorem step_ex (s : Step m1 H1 m H) (hn : H1 D = none) (hD : H D = some (HO.lst avs)) : Step m1 H1 m (upd H D (HO.lst us)) :=
  ⟨s.pre, s.exo, s.exn, s.new, fun a o n e nt => by rw [upd_ne (ne_of_none e hn)]; exact s.keep a o n e nt, fun a xs e => by rw [upd_ne (ne_of_none e hn)]; exact s.tup a xs e, fun a o u e => by rw [upd_ne (ne_of_none e hn)]; exact s.frz a o u e⟩
/-- it is made: nobody changes it, or it comes to the store -/
theorem mem_shut {a : Addr} : a ∈ (m.shut D).ex ↔ a ∈ m.ex ∧ a ≠ D := by simp [Mm.shut]
theorem step_shut (s : Step m1 H1 m H) (h1 : D ∉ m1.ex) : Step m1 H1 (m.shut D) H :=
  ⟨s.pre, fun a ha => mem_shut.mpr ⟨s.exo a ha, fun q => h1 (by rw [← q]; exact ha)⟩, fun a ha n => s.exn a (mem_shut.mp ha).1 n, s.new, s.keep, s.tup, s.frz⟩
theorem step_shutP (s : Step m1 H1 m H) (hn : H1 D = none) (h1 : D ∉ m1.ex) : Step m1 H1 ((m.shut D).push D) H := by
  refine ⟨?_, (step_shut s h1).exo, (step_shut s h1).exn, fun a ha n => ?_, s.keep, s.tup, s.frz⟩
  · obtain ⟨l, e⟩ := s.pre
    exact ⟨l ++ [D], by show m.ix ++ [D] = _; rw [e, List.append_assoc]⟩
  · rcases List.mem_append.mp ha with z | z
    · exact s.new a z n
    · rw [List.mem_singleton.mp z]; exact nil_of hn
theorem emb_shut (hm : D ∈ m.ex) : Emb m H (m.shut D) H :=
  ⟨fun n a e => e, fun a o n e nt => ⟨⟨n.1, fun q => n.2 (mem_shut.mp q).1⟩, e⟩, fun a xs e => e, fun a o u e => e⟩
theorem emb_shutP (hm : D ∈ m.ex) : Emb m H ((m.shut D).push D) H :=
  ⟨fun n a e => by
      show (m.ix ++ [D])[n]? = some a
      rw [List.getElem?_append_left (List.getElem?_eq_some_iff.mp e).1]
      exact e, fun a o n e nt => ⟨⟨fun q => by
      rcases List.mem_append.mp q with z | z
      · exact n.1 z
      · exact n.2 (by rw [List.mem_singleton.mp z]; exact hm), fun q => n.2 (mem_shut.mp q).1⟩, e⟩, fun a xs e => e, fun a o u e => e⟩
theorem RelS.shut (h : RelS g m S H) (hm : D ∈ m.ex) : RelS g (m.shut D) S H :=
  ⟨h.len, h.nd, fun a ha => h.exs a (mem_shut.mp ha).1, fun n xs e => by
    obtain ⟨a, vs, e1, e2, e3⟩ := h.at_ n xs e
    exact ⟨a, vs, e1, e2, RSO.emb (emb_shut hm) e3⟩, h.tab⟩
theorem RelS.shutP {xs : List PV} (hb : Bare g) (h : RelS g m S H) (hm : D ∈ m.ex) (hD : H D = some (HO.lst avs)) (r : RepL g m H xs avs) : RelS g ((m.shut D).push D) (S ++ [SO.lst xs]) H := by
  refine ⟨?_, ?_, fun a ha => ⟨fun q => ?_, (h.exs a (mem_shut.mp ha).1).2⟩, fun n ys e => ?_, h.tab⟩
  · show (m.ix ++ [D]).length = _
    simp [h.len]
  · show (m.ix ++ [D]).Nodup
    rw [List.nodup_append]
    refine ⟨h.nd, by simp, fun a ha b hb q => ?_⟩
    rw [List.mem_singleton.mp hb] at q
    exact (h.exs D hm).1 (by rw [← q]; exact ha)
  · rcases List.mem_append.mp q with z | z
    · exact (h.exs a (mem_shut.mp ha).1).1 z
    · exact (mem_shut.mp ha).2 (List.mem_singleton.mp z)
  · by_cases hn : n < S.length
    · rw [List.getElem?_append_left hn] at e
      obtain ⟨a, vs, e1, e2, e3⟩ := h.at_ n ys e
      exact ⟨a, vs, (emb_shutP (H := H) hm).get n a e1, e2, RSO.emb (emb_shutP hm) e3⟩
    · rw [List.getElem?_append_right (by omega)] at e
      have hz : n - S.length = 0 := by
        have z := (List.getElem?_eq_some_iff.mp e).1
        simp at z; omega
      rw [hz] at e
      cases e
      refine ⟨D, _, ?_, hD, by rw [hb]; exact ⟨avs, rfl, RepL.emb (emb_shutP hm) _ _ r⟩⟩
      show (m.ix ++ [D])[n]? = some D
      rw [List.getElem?_append_right (by rw [h.len]; omega), h.len, hz]
      rfl
end

/-! ### slots that a comprehension forgets -/
def wipeP (ρ : EnP) : List Nat → EnP
  | [] => ρ
  | v :: vs => (wipeP ρ vs).set v none
theorem wipeP_length (ρ : EnP) : ∀ vs : List Nat, (wipeP ρ vs).length = ρ.length
  | [] => rfl
  | v :: vs => by unfold wipeP; rw [List.length_set, wipeP_length ρ vs]
theorem wipe_get {σ : L2.St} {i : Nat} : ∀ {vs : List Nat}, i ∉ vs → (wipe σ vs)[i]? = σ[i]?
  | [], _ => rfl
  | v :: vs, h => by
    unfold wipe
    rw [List.getElem?_set_ne (fun e => h (by rw [e]; exact List.mem_cons_self))]
    exact wipe_get fun z => h (List.mem_cons_of_mem _ z)
theorem wipeP_some {ρ : EnP} {i : Nat} {x : PV} : ∀ {vs : List Nat}, (wipeP ρ vs)[i]? = some (some x) → ρ[i]? = some (some x) ∧ i ∉ vs
  | [], h => ⟨h, by simp⟩
  | v :: vs, h => by
    unfold wipeP at h
    by_cases hi : v = i
    · subst hi
      by_cases hv : v < (wipeP ρ vs).length
      · rw [List.getElem?_set_self hv] at h; cases h
      · rw [List.getElem?_eq_none (by simpa using hv)] at h; cases h
    · rw [List.getElem?_set_ne hi] at h
      obtain ⟨h1, h2⟩ := wipeP_some h
      exact ⟨h1, by simp only [List.mem_cons, not_or]; exact ⟨fun e => hi e.symm, h2⟩⟩
theorem RelE.wipe {g : Gm} {m : Mm} {H : Hp} {ρ : EnP} {σ : L2.St} (r : RelE g m H ρ σ) (vs : List Nat) : RelE g m H (wipeP ρ vs) (L2.wipe σ vs) :=
  ⟨by rw [wipeP_length, wipe_length, r.len], fun i v e => by
    obtain ⟨e1, e2⟩ := wipeP_some e
    obtain ⟨w, e3, e4⟩ := r.at_ i v e1
    exact ⟨w, by rw [wipe_get e2]; exact e3, e4⟩⟩
theorem wipe_get_in {σ : L2.St} {i : Nat} : ∀ {vs : List Nat}, i ∈ vs → i < σ.length → (wipe σ vs)[i]? = some none
  | v :: vs, h, hl => by
    unfold wipe
    by_cases hv : v = i
    · subst hv
      rw [List.getElem?_set_self (by rw [wipe_length]; exact hl)]
    · rw [List.getElem?_set_ne hv]
      refine wipe_get_in ?_ hl
      rcases List.mem_cons.mp h with e | e
      · exact absurd e.symm hv
      · exact e
theorem wipe_ext {σ τ : L2.St} {vs : List Nat} (hl : σ.length = τ.length) (h : ∀ i, i ∉ vs → σ[i]? = τ[i]?) : wipe σ vs = wipe τ vs := by
  refine List.ext_getElem? fun i => ?_
  by_cases hi : i ∈ vs
  · by_cases hlt : i < σ.length
    · rw [wipe_get_in hi hlt, wipe_get_in hi (by rw [← hl]; exact hlt)]
    · rw [List.getElem?_eq_none (by rw [wipe_length]; omega), List.getElem?_eq_none (by rw [wipe_length]; omega)]
  · rw [wipe_get hi, wipe_get hi, h i hi]
theorem wipe_wipe (σ : L2.St) (vs : List Nat) : wipe (wipe σ vs) vs = wipe σ vs := wipe_ext (wipe_length _ _) fun i hi => wipe_get hi
theorem wipe_set (σ : L2.St) (vs : List Nat) {i : Nat} (x : Option V) (h : i ∈ vs) : wipe (σ.set i x) vs = wipe σ vs := wipe_ext (by rw [List.length_set]) fun j hj => List.getElem?_set_ne (fun e => hj (by rw [← e]; exact h))

/-! ### targets of a comprehension -/
/-- the target takes a tree into own slots alone -/
def TgC (g : Gm) (vs : List Nat) (t : TG) (f : PV → EnP → Option EnP) : Prop :=
  ∀ (m : Mm) (H : Hp) (x : PV) (v : V) (ρ ρ' : EnP) (σ : L2.St) (Q : L2.St → Hp → Prop), Rep g m H x v → RelE g m H ρ σ → f x ρ = some ρ' → (∀ σ', wipe σ' vs = wipe σ vs → RelE g m H ρ' σ' → Q σ' H) → t v σ H Q
def TgCs (g : Gm) (vs : List Nat) (t : TGs) (f : List PV → EnP → Option EnP) : Prop :=
  ∀ (m : Mm) (H : Hp) (xs : List PV) (us : List V) (ρ ρ' : EnP) (σ : L2.St) (Q : L2.St → Hp → Prop), RepL g m H xs us → RelE g m H ρ σ → f xs ρ = some ρ' → (∀ σ', wipe σ' vs = wipe σ vs → RelE g m H ρ' σ' → Q σ' H) → t us σ H Q
def cNm (i : Nat) : PV → EnP → Option EnP := fun x ρ => some (ρ.set i (some x))
def cNil : List PV → EnP → Option EnP := fun xs ρ => match xs with
  | [] => some ρ
  | _ => none
def cCons (f : PV → EnP → Option EnP) (fs : List PV → EnP → Option EnP) : List PV → EnP → Option EnP := fun xs ρ => match xs with
  | x :: r => (match f x ρ with
    | some ρ' => fs r ρ'
    | none => none)
  | [] => none
def cTup (n : Nat) (fs : List PV → EnP → Option EnP) : PV → EnP → Option EnP := fun x ρ => match x with
  | .tup xs => if xs.length = n then fs xs ρ else none
  | _ => none
theorem tgc_name {g : Gm} {vs : List Nat} {i : Nat} (h : i ∈ vs) : TgC g vs (gName i) (cNm i) := fun m H x v ρ ρ' σ Q r hE e q => by
  cases e
  exact q _ (wipe_set σ vs _ h) (hE.set i r)
theorem tgcs_nil {g : Gm} {vs : List Nat} : TgCs g vs gNil cNil := fun m H xs us ρ ρ' σ Q r hE e q => by
  cases xs with
  | nil =>
    cases e
    unfold RepL at r
    exact ⟨r, q σ rfl hE⟩
  | cons x xs => cases e
theorem tgcs_cons {g : Gm} {vs : List Nat} {t : TG} {f : PV → EnP → Option EnP} {ts : TGs} {fs : List PV → EnP → Option EnP} (h : TgC g vs t f) (hs : TgCs g vs ts fs) : TgCs g vs (gCons t ts) (cCons f fs) := fun m H xs us ρ ρ' σ Q r hE e q => by
  cases xs with
  | nil => cases e
  | cons x xs =>
    unfold RepL at r
    obtain ⟨v, ws, rfl, r1, r2⟩ := r
    simp only [cCons] at e
    cases e1 : f x ρ with
    | none => rw [e1] at e; cases e
    | some ρ1 =>
      rw [e1] at e
      exact ⟨v, ws, rfl, h m H x v ρ ρ1 σ _ r1 hE e1 fun σ' w hE' => hs m H xs ws ρ1 ρ' σ' Q r2 hE' e fun σ'' w' hE'' => q σ'' (w'.trans w) hE''⟩
theorem tgc_tup {g : Gm} {vs : List Nat} {n : Nat} {ts : TGs} {fs : List PV → EnP → Option EnP} (hs : TgCs g vs ts fs) : TgC g vs (gTup g.K n ts) (cTup n fs) := fun m H x v ρ ρ' σ Q r hE e q => by
  cases x with
  | tup xs =>
    simp only [cTup] at e
    split at e
    · rename_i hl
      obtain ⟨a, us, rfl, h1, h2⟩ := tup_rep r
      exact ⟨a, us, rfl, h1, by rw [← h2.length]; exact hl, hs m H xs us ρ ρ' σ Q h2 hE e q⟩
    · cases e
  | _ => cases e

/-! ### comprehensions -/
abbrev W0 : WX := fun _ _ _ _ => False
def lcP (f : PV → EnP → Option EnP) (dt : EnP → Sto → Res Bool) (de : EnP → Sto → Res PV) (ρ : EnP) : List PV → List PV → Sto → Res (List PV)
  | [], acc, S => .ok acc S
  | x :: xs, acc, S => match f x ρ with
    | none => .bad
    | some ρ1 => (match dt ρ1 S with
      | .ok true S1 => (match de ρ1 S1 with
        | .ok y S2 => if acc.length < lim then lcP f dt de ρ xs (acc ++ [y]) S2 else .bad
        | _ => .bad)
      | .ok false S1 => lcP f dt de ρ xs acc S1
      | _ => .bad)
def dYes : EnP → Sto → Res Bool := fun _ S => .ok true S
def dLc (mt : Bool) (di : EnP → Sto → Res (List PV)) (f : PV → EnP → Option EnP) (dt : EnP → Sto → Res Bool) (de : EnP → Sto → Res PV) (vs : List Nat) : EnP → Sto → Res PV := fun ρ S =>
  (di ρ S).bind fun items S1 => (lcP f dt de (wipeP ρ vs) items [] S1).bind fun acc S2 => mkLst mt acc S2
theorem lc_sound {X : Cx} {T : Tb} {W : WX} {wi : TI} {g : TG} {tt : TT} {te : TE} {vs : List Nat} {di : EnP → Sto → Res (List PV)} {f : PV → EnP → Option EnP} {dt : EnP → Sto → Res Bool} {de : EnP → Sto → Res PV} (mt : Bool) (hb : mt = true → Bare (gm X T))
    (hi : ∀ σ H R, tr (gm X T) W (fun m' H' items J => ItOk (gm X T) J items m' H') di σ H R → wi σ H R) (hg : TgC (gm X T) vs g f)
    (ht : ∀ σ H Q, tb (gm X T) W0 dt σ H Q → tt σ H Q) (he : ∀ σ H Q, tv (gm X T) W0 de σ H Q → te σ H Q) {σ : L2.St} {H : Hp} {Q : VK} (h : tv (gm X T) W (dLc mt di f dt de vs) σ H Q) : tLc wi g tt te vs σ H Q := by
  obtain ⟨ρ, S, m, hE, hS, p⟩ := h
  refine hi _ _ _ (tr_bind (f := fun items ρ S1 => (lcP f dt de (wipeP ρ vs) items [] S1).bind fun acc S2 => mkLst mt acc S2) hE hS p fun items S1 m1 H1 J s1 hE1 hS1 hJ p1 D hD => ?_)
  have D1 : D ∉ m1.ex := (hS1.fresh hD).2
  refine ⟨fun i n H => ∃ S m acc avs, Step m1 H1 m H ∧ D ∈ m.ex ∧ H D = some (HO.lst avs) ∧ RepL (gm X T) m H acc avs ∧ RelS (gm X T) m S H ∧ RelE (gm X T) m H (wipeP ρ vs) (wipe σ vs) ∧ (n = items.length - i ∧ i ≤ items.length) ∧ PostV (gm X T) W σ m1 H1 Q ((lcP f dt de (wipeP ρ vs) (items.drop i) acc S).bind fun acc S2 => mkLst mt acc S2),
    ⟨_, S1, m1.open_ D, [], [], step_open hD, List.mem_cons_self, upd_same, RepL.nil, hS1.open_ hD, (hE1.wipe vs).step (step_open hD), ⟨rfl, Nat.zero_le _⟩, p1⟩, ?_⟩
  rintro i n H2 ⟨S2, m2, acc, avs, s2, hm2, hD2, ra, hS2, hE2, ⟨rfl, hle⟩, p2⟩
  by_cases hlt : i < items.length
  · right
    have ei : items[i]? = some items[i] := List.getElem?_eq_getElem hlt
    obtain ⟨hgo, hy⟩ := hJ.go m2 H2 S2 i items[i] s2.emb hS2 ei
    refine ⟨hgo, fun H => ∃ S m acc avs, Step m1 H1 m H ∧ D ∈ m.ex ∧ H D = some (HO.lst avs) ∧ RepL (gm X T) m H acc avs ∧ RelS (gm X T) m S H ∧ RelE (gm X T) m H (wipeP ρ vs) (wipe σ vs) ∧ PostV (gm X T) W σ m1 H1 Q ((lcP f dt de (wipeP ρ vs) (items.drop (i + 1)) acc S).bind fun acc S2 => mkLst mt acc S2),
      fun H' ⟨S', m', acc', avs', a, b, c, d, e, f1, k⟩ => ⟨items.length - (i + 1), by omega, S', m', acc', avs', a, b, c, d, e, f1, ⟨rfl, hlt⟩, k⟩, fun v H3 y => ?_⟩
    obtain ⟨s3, hS3, hr3⟩ := hy v H3 y
    rw [List.drop_eq_getElem_cons hlt] at p2
    unfold lcP at p2
    have D2 : D ∉ m2.ix := (hS2.exs D hm2).1
    have lstk : ∀ {m' H'}, Step m2 H2 m' H' → D ∈ m'.ex ∧ H' D = some (HO.lst avs) := fun s => ⟨s.exo D hm2, s.keep D _ D2 hD2 nt_lst⟩
    have hE3 := hE2.step s3
    cases ef : f items[i] (wipeP ρ vs) with
    | none => rw [ef] at p2; exact p2.elim
    | some ρ1 =>
      simp only [ef] at p2
      refine hg m2 H3 items[i] v (wipeP ρ vs) ρ1 (wipe σ vs) _ hr3 hE3 ef fun σ' w hE' => ⟨by rw [w, wipe_wipe], ?_⟩
      refine ht _ _ _ ⟨ρ1, S2, m2, hE', hS3, ?_⟩
      cases et : dt ρ1 S2 with
      | bad => simp only [et] at p2; exact p2.elim
      | exc c fs S3 => simp only [et] at p2; exact p2.elim
      | ok b S3 =>
        simp only [et] at p2
        intro m4 H4 b' s4 hS4 eb
        cases eb
        have s24 := s3.trans s4
        cases b with
        | false =>
          rw [if_neg Bool.false_ne_true]
          exact ⟨S3, m4, acc, avs, s2.trans s24, (lstk s24).1, (lstk s24).2, RepL.step s24 _ _ ra, hS4, hE2.step s24, p2⟩
        | true =>
          rw [if_pos rfl]
          refine he _ _ _ ⟨ρ1, S3, m4, hE'.step s4, hS4, ?_⟩
          cases ee : de ρ1 S3 with
          | bad => simp only [ee] at p2; exact p2.elim
          | exc c fs S5 => simp only [ee] at p2; exact p2.elim
          | ok y5 S5 =>
            simp only [ee] at p2
            by_cases hz : acc.length < lim
            · rw [if_pos hz] at p2
              intro m5 H5 w5 s5 hS5 hr5
              have s25 := s24.trans s5
              have k5 := lstk s25
              refine ⟨avs, k5.2, by rw [sizeLine_eq, ← ra.length]; exact hz, S5, m5, acc ++ [y5], avs ++ [w5], step_ex (s2.trans s25) hD k5.2, k5.1, upd_same, ?_, hS5.ex_ k5.1 k5.2, (hE2.step s25).emb (emb_ex k5.1 k5.2), p2⟩
              exact RepL.emb (emb_ex k5.1 k5.2) _ _ ((RepL.step s25 _ _ ra).append (RepL.cons hr5 RepL.nil))
            · rw [if_neg hz] at p2; exact p2.elim
  · left
    refine ⟨hJ.stop m2 H2 S2 i s2.emb hS2 (by omega), ?_⟩
    rw [List.drop_eq_nil_of_le (by omega)] at p2
    have p3 : PostV (gm X T) W σ m1 H1 Q (mkLst mt acc S2) := p2
    unfold mkLst at p3
    split at p3
    · cases mt with
      | true =>
        refine p3 ((m2.shut D).push D) H2 (.ref D) (step_shutP s2 hD D1) (hS2.shutP (hb rfl) hm2 hD2 ra) ?_
        show Rep _ _ _ (.ref S2.length) _
        unfold Rep
        refine ⟨D, ?_, rfl⟩
        show (m2.ix ++ [D])[S2.length]? = some D
        rw [List.getElem?_append_right (by rw [hS2.len]; omega), hS2.len]
        simp
      | false =>
        refine p3 (m2.shut D) H2 (.ref D) (step_shut s2 D1) (hS2.shut hm2) ?_
        show Rep _ _ _ (.nl acc) _
        unfold Rep
        exact ⟨D, avs, rfl, ⟨(hS2.exs D hm2).1, fun q => (mem_shut.mp q).2 rfl⟩, hD2, RepL.emb (emb_shut hm2) _ _ ra⟩
    · exact p3.elim
section
variable {X : Cx} {T : Tb} {W : WX} {elt tg iter c : Expr} {ifs : List Expr} {scope : Scope} {own : List (Str × Nat)} {pos spos : Pos} {g : TG} {di : EnP → Sto → Res (List PV)} {f : PV → EnP → Option EnP} {dt : EnP → Sto → Res Bool} {de : EnP → Sto → Res PV}
/-- a clause's tests -/
def CTs (X : Cx) (T : Tb) (ifs : List Expr) (dt : EnP → Sto → Res Bool) : Prop := ∃ tt : TT, PTs X ifs tt ∧ ∀ σ H Q, tb (gm X T) W0 dt σ H Q → tt σ H Q
theorem cts_nil : CTs X T [] dYes := ⟨_, pts_nil, fun σ H Q ⟨ρ, S, m, hE, hS, p⟩ => PostR.here (a := true) p hS rfl⟩
theorem cts_one (h : CT X T W0 c dt) : CTs X T [c] dt := ⟨_, pts_one h, fun σ H Q q => q⟩
/-- every block of this scope in X -/
abbrev InBlk (X : Cx) (scope : Scope) (P : Cx → Prop) : Prop := ∀ (s : Shared) (H : Hp) (C : Addr) (cl : List (Str × Addr)) (fp : List Addr), P (X.blk s H scope (compEnvC scope cl C X.env) fp)
theorem ce_lc (mt : Bool) (hb : mt = true → Bare (gm X T)) (hc : X.calm = true) (hN : X.N.Nodup) (hi : CI X T W tg iter di) (ok : BlkOk X.N X.env.scope scope own) (hg : InBlk X scope fun Y => PG Y tg g) (hf : TgC (gm X T) (own.map (·.2)) g f)
    (ht : InBlk X scope fun Y => PTs Y ifs (tb (gm X T) W0 dt)) (he : InBlk X scope fun Y => CE Y T W0 elt de) (hs : ∀ x, foldedSetIterable iter X.env x = pure x := by intro _; rfl) :
    CE X T W (.ListComp elt [⟨tg, iter, ifs, 0⟩] scope pos) (dLc mt di f dt de (own.map (·.2))) :=
  pe_imp (pe_lc hc hN hi ok hg ht (te := tv (gm X T) W0 de) he hs) fun σ H Q h => lc_sound mt hb (fun _ _ _ q => q) hf (fun _ _ _ q => q) (fun _ _ _ q => q) h
theorem pts_yes : PTs X [] (tb (gm X T) W0 dYes) := ⟨fun pins s σ H Q I ⟨ρ, S, m, hE, hS, p⟩ => pts_nil.run pins s σ H Q I (PostR.here (a := true) p hS rfl)⟩
/-- name = [..], on one line, the name a local -/
theorem cs_lc (mt : Bool) (hb : mt = true → Bare (gm X T)) {i : Nat} {y : Str} {py : Pos} (hc : X.calm = true) (hN : X.N.Nodup) (hy : X.N[i]? = some y) (hyl : X.env.scope.names.lookup y = some .local)
    (hsw : swapsWith (.ListComp elt [⟨tg, iter, ifs, 0⟩] scope pos) (some (.Name y py)) spos.line X.env = pure true) (hi : CI X T W tg iter di) (ok : BlkOk X.N X.env.scope scope own) (hg : InBlk X scope fun Y => PG Y tg g) (hf : TgC (gm X T) (own.map (·.2)) g f)
    (ht : InBlk X scope fun Y => PTs Y ifs (tb (gm X T) W0 dt)) (he : InBlk X scope fun Y => CE Y T W0 elt de) (hs : ∀ x, foldedSetIterable iter X.env x = pure x := by intro _; rfl) :
    CS X T W (.Assign [.Name y py] (.ListComp elt [⟨tg, iter, ifs, 0⟩] scope pos) spos) (dSet i (dLc mt di f dt de (own.map (·.2)))) :=
  ps_imp (ps_setLc hc hN hy hyl hsw hi ok hg ht (te := tv (gm X T) W0 de) he hs) fun D σ H ⟨ρ, S, m, hE, hS, p⟩ => by
    refine lc_sound (W := W) mt hb (fun _ _ _ q => q) hf (fun _ _ _ q => q) (fun _ _ _ q => q) ?_
    exact ts_bind (d := dLc mt di f dt de (own.map (·.2))) (k := fun v S1 => .nx (ρ.set i (some v)) S1) hE hS p fun v S1 m1 H1 w s1 hE1 hS1 hr p1 => p1.nx_here hS1 (hE1.set i hr)
end
end Mi
end
section
set_option Elab.async false
set_option linter.all false
set_option maxRecDepth 100000
set_option maxHeartbeats 2000000
namespace Mi
open PySem PySem.Spec PyProof.Rows L2

/-! ### defs and their calls -/
/-- what stands fast in a run -/
structure Wd where
  P : Program
  w : World
  K : PySem.W.Frag
  mg : Str → Option Value
  base : Heap
  T : Tb
abbrev Wd.g (Z : Wd) : Gm := ⟨Z.K, Z.mg, Z.T, none⟩
abbrev Wd.cx (Z : Wd) (N : List Str) (x : Str) (sc : Scope) (f : Addr) (cdv : Value) (A : Around) (outer : List Env) (s : Shared) (H : Hp) (E : XK) : Cx :=
  cxOf (L2.CX Z.P Z.w) Z.P Z.w Z.K Z.mg Z.base N x sc f cdv A outer s H E
abbrev wdOf (X : Cx) (T : Tb) : Wd := ⟨X.prog, X.w, X.K, X.mg, X.base, T⟩
def startP (n : Nat) (xs : List PV) : EnP := xs.map some ++ List.replicate (n - xs.length) none
def endOf : SR → Res PV
  | .nx _ S => .ok .non S
  | .rt v S => .ok v S
  | .exc c fs _ S => .exc c fs S
  | .bk _ _ => .bad
  | .ct _ _ => .bad
  | .bad => .bad
/-- a def by its body: n parameters, len names -/
def runF (n len : Nat) (d : EnP → Sto → SR) : List PV → Sto → Res PV := fun xs S => if xs.length = n then endOf (d (startP len xs) S) else .bad
/-- what the function object at f answers -/
def FA (Z : Wd) (k : Nat) (f : Addr) (F : List PV → Sto → Res PV) : Prop :=
  ∀ (A : Around) (outer : List Env) (s : Shared) (H : Hp) (us : List Value) (vs : List V) (xs : List PV) (S : Sto) (m : Mm) (Q : VK) (E : XK), Room k A → A.guards = some [] → Env0 Z.P Z.w Z.K Z.mg Z.base A outer s H → Vals vs us → RelS Z.g m S H → RepL Z.g m H xs vs →
    PostV Z.g (fun c d _ H => E c d H) [] m H Q (F xs S) → codeAny (model Z.P Z.w) A (.call (.ref f) ⟨us, []⟩) (CR (L2.CX Z.P Z.w) outer Z.P Z.w H s Q E) s
structure FC (Z : Wd) (k : Nat) (x : Str) (F : List PV → Sto → Res PV) : Prop where
  ex : ∃ f, Z.mg x = some (.ref f) ∧ PySem.W.keepIn Z.K (.ref f) = true ∧ FA Z k f F
theorem start_rel {g : Gm} {m : Mm} {H : Hp} {xs : List PV} {vs : List V} {N : List Str} (r : RepL g m H xs vs) : RelE g m H (startP N.length xs) (L2.start N vs) := by
  refine ⟨?_, fun i v e => ?_⟩
  · unfold startP L2.start
    rw [List.length_append, List.length_append, List.length_map, List.length_map, List.length_replicate, List.length_replicate, r.length]
  · unfold startP at e
    by_cases hi : i < xs.length
    · rw [List.getElem?_append_left (by rw [List.length_map]; exact hi), List.getElem?_map] at e
      cases ex : xs[i]? with
      | none => rw [ex] at e; cases e
      | some y =>
        rw [ex] at e
        cases e
        obtain ⟨w, e1, e2⟩ := r.get ex
        refine ⟨w, ?_, e2⟩
        unfold L2.start
        rw [List.getElem?_append_left (by rw [List.length_map, ← r.length]; exact hi), List.getElem?_map, e1]
        rfl
    · rw [List.getElem?_append_right (by rw [List.length_map]; omega), List.getElem?_replicate] at e
      split at e <;> cases e
theorem endOf_post {g : Gm} {W : WX} {m : Mm} {H : Hp} {Q : VK} {r : SR} {σ : L2.St} (hW : ∀ c d σ σ' H, W c d σ H → W c d σ' H) (p : PostV g W σ m H Q (endOf r)) : PostS g W { nx := fun _ H' => Q .non H', rt := Q } m H r := by
  cases r with
  | nx ρ S => exact fun m' H' σ' s h1 h2 => p m' H' .non s h1 mk_non
  | rt v S => exact fun m' H' w s h1 h2 => p m' H' w s h1 h2
  | exc c fs ρ S => exact fun m' H' σ' cls dd s h1 h2 h3 => hW _ _ _ _ _ (p m' H' cls dd s h1 h3)
  | _ => exact p.elim
/-- a def as it stands, with its code object -/
structure FunC (K : PySem.W.Frag) (x : Str) (st : Stmt) (f : Addr) (cdv : Value) : Prop where
  ex : ∃ (oc : Value) (od : Option Addr) (kV doc pm : Value) (an : Option Addr) (ct : Value) (osl : Array (Option Value)),
    K.lookup f = some ⟨oc, od, .func (PySem.W.fnOf x x (defArgs st) (defBody st) (defScope st) .none kV doc pm an cdv ct), osl⟩
  cd : PySem.W.codeIn K cdv x = true
/-- how its arguments are bound -/
abbrev BindC (x : Str) (st : Stmt) (ps : List Str) : Prop := ∀ (kV doc pm : Value) (an : Option Addr) (cdv ct : Value) (us : List Value), us.length = ps.length → bindArgs (PySem.W.fnOf x x (defArgs st) (defBody st) (defScope st) .none kV doc pm an cdv ct) ⟨us, []⟩ = pure (ps.zip us)
theorem run_body {Z : Wd} {k : Nat} {x : Str} {st : Stmt} {f : Addr} {cdv : Value} {N ps : List Str} {t : TS} (F : FunC Z.K x st f cdv) (Sc : FnScope N ps (defScope st)) (hb : BindC x st ps)
    {A : Around} {outer : List Env} {s : Shared} {H : Hp} {us : List Value} {vs : List V} {Q : VK} {E : XK} (hr : Room (k + 1) A) (e0 : Env0 Z.P Z.w Z.K Z.mg Z.base A outer s H) (rv : Vals vs us) (hul : us.length = ps.length)
    (body : PSs (Z.cx N x (defScope st) f cdv A outer s H E) (defBody st) t) (hp : t { nx := fun _ H' => Q .non H', rt := Q } (L2.start N vs) H) :
    codeAny (model Z.P Z.w) A (.call (.ref f) ⟨us, []⟩) (CR (L2.CX Z.P Z.w) outer Z.P Z.w H s Q E) s := by
  obtain ⟨oc, od, kV, doc, pm, an, ct, osl, lk⟩ := F.ex
  have KX : Z.K.In s.heap := e0.mod.kin.keeps fun b o e => (e0.bs b o e).1
  have hvl : vs.length = ps.length := by rw [rv.length]; exact hul
  have places : ∀ y ∈ ps.zip us, (defScope st).names.lookup y.1 = some .local ∨ ((defScope st).names.lookup y.1 = some .cell ∧ ((cellsFrom (s.heap.objs.size + 1) (defScope st).names []).lookup y.1).isSome = true) := fun y hy => by
    rcases Sc.par y.1 (List.of_mem_zip (a := y.1) (b := y.2) hy).1 with q | q
    · exact .inl q
    · exact .inr ⟨q, PySem.W.cellsFrom_some _ _ _ (.inl q)⟩
  refine codeAny_call_cells hr.depth (KX _ _ lk) rfl (e0.mod.nolimit.keeps fun b o e => (e0.bs b o e).1) (PySem.W.codeRec_of KX F.cd) rfl (hb kV doc pm an cdv ct us hul) rfl places (fun s₁ ic => ?_) Sc.co Sc.gen Sc.kind
  have J : Inv (Z.cx N x (defScope st) f cdv A outer s H E) [] (L2.start N vs) H s₁ := inv_start Sc hr.hd e0 hvl rv ic
  refine wpAny_mono (body.run [] s₁ _ H _ J hp) (fun fl s' hs => ?_) fun _ _ hs => hs
  cases fl with
  | next => obtain ⟨σ', H', J', q⟩ := hs; exact ⟨.non, H', J'.os, J'.bare, J'.base, J'.hok, rfl, q⟩
  | ret u => obtain ⟨v, σ', H', J', r, q⟩ := hs; exact ⟨v, H', J'.os, J'.bare, J'.base, J'.hok, r, q⟩
  | brk => obtain ⟨_, _, _, q⟩ := hs; exact q.elim
  | cont => obtain ⟨_, _, _, q⟩ := hs; exact q.elim
theorem fa_of {Z : Wd} {k : Nat} {x : Str} {st : Stmt} {f : Addr} {cdv : Value} {N ps : List Str} {d : EnP → Sto → SR} (F : FunC Z.K x st f cdv) (Sc : FnScope N ps (defScope st)) (hb : BindC x st ps)
    (body : ∀ (A : Around) (outer : List Env) (s : Shared) (H : Hp) (E : XK), Room k (A.deeper (envOfC x (defScope st) s.heap.objs.size f cdv)) → A.guards = some [] → CSs (Z.cx N x (defScope st) f cdv A outer s H E) Z.T (fun c d _ H => E c d H) (defBody st) d) :
    FA Z (k + 1) f (runF ps.length N.length d) := by
  intro A outer s H us vs xs S m Q E hr hgd e0 rv hS rx p
  unfold runF at p
  split at p
  case isFalse => exact p.elim
  rename_i hl
  have hul : us.length = ps.length := by rw [← rv.length, ← rx.length]; exact hl
  have eg : Z.g = gm (Z.cx N x (defScope st) f cdv A outer s H E) Z.T := congrArg (Gm.mk Z.K Z.mg Z.T) hr.hd.symm
  rw [eg] at hS rx p
  exact run_body F Sc hb hr e0 rv hul (body A outer s H E (hr.deeper _) hgd) ⟨_, S, m, start_rel rx, hS, endOf_post (fun _ _ _ _ _ h => h) p⟩
theorem gm_none {X : Cx} {T : Tb} (h : X.A.handled = none) : gm X T = (wdOf X T).g := by
  show Gm.mk _ _ _ X.A.handled = _
  rw [h]
theorem FA.mono {Z : Wd} {j k : Nat} {f : Addr} {F : List PV → Sto → Res PV} (h : FA Z j f F) (hjk : j ≤ k) : FA Z k f F := fun A outer s H us vs xs S m Q E hr => h A outer s H us vs xs S m Q E (hr.mono hjk)
theorem FA.call {X : Cx} {T : Tb} {W : WX} {k : Nat} {f : Addr} {F : List PV → Sto → Res PV} (c : FA (wdOf X T) k f F) (hr : Room k X.A) (hgd : X.A.guards = some []) (tk : Takes X W) {pins : List (Addr × Obj)} {σ : L2.St} {H : Hp} {s : Shared} {Q : VK} {us : List Value} {vs : List V} {xs : List PV} {S : Sto} {m : Mm}
    (I : Inv X pins σ H s) (rv : Vals vs us) (hS : RelS (gm X T) m S H) (rx : RepL (gm X T) m H xs vs) (p : PostV (gm X T) W σ m H Q (F xs S)) : wpAny (model X.prog X.w) X.A (call (.ref f) us) (EP X pins σ Q) X.xe s := by
  rw [gm_none hr.hd] at hS rx p
  have p2 : PostV (wdOf X T).g (fun c d _ H => W c d σ H) [] m H Q (F xs S) := by
    cases e : F xs S with
    | ok a S1 => rw [e] at p; exact p
    | exc c fs S1 => rw [e] at p; exact p
    | bad => rw [e] at p; exact p
  refine wpAny_call (codeAny_mono (c X.A X.stack s H us vs xs S m Q (fun c d H => W c d σ H) hr hgd I.env0 rv hS rx p2) fun r s' hq => ?_)
  cases r with
  | error e => exact tk e s' (XE.of_call I (fun _ _ _ h => h) hq)
  | ok fl =>
    cases fl with
    | ret u => exact I.after hq
    | _ => exact False.elim hq
section
variable {X : Cx} {T : Tb} {W : WX} {j k : Nat} {x : Str} {p pos : Pos} {e : Expr} {es : List Expr} {F : List PV → Sto → Res PV} {dl : EnP → Sto → Res (List PV)}
theorem ce_call (c : FC (wdOf X T) j x F) (C : Ctx X k W) (hjk : j ≤ k) (hg : Gl X x) (ha : CA X T W (e :: es) dl) (hdb : (x == ("__debug__" : Str)) = false := by decide)
    (he : starEach (e :: es) X.env = (false, eval e X.env) :: starEach es X.env := by rfl) (hpl : (backTo pos (starEach es X.env)).any (·.1) = false := by rfl) : CE X T W (.Call (.Name x p) (e :: es) [] pos) (dCB F dl) := by
  obtain ⟨f, hm, hk, fa⟩ := c.ex
  refine ⟨fun pins s σ H Q I h => ?_⟩
  obtain ⟨ρ, S, m, hE, hS, q⟩ := h
  refine wpAny_Call_Name_kw (ld_glob I hg hm ?_ hdb)
  refine PySem.W.callWith_K (h₀ := X.base) I.ok.mod.kin hk (thn (ha.run pos pins s σ H (fun vs H1 => ∃ xs S1 m1, RelS (gm X T) m1 S1 H1 ∧ RepL (gm X T) m1 H1 xs vs ∧ PostV (gm X T) W σ m1 H1 Q (F xs S1)) I ?_) fun us s1 ⟨vs, H1, I1, r, xs, S1, m1, a1, a2, a3⟩ => ⟨I1.kIn, ?_⟩) he hpl
  · exact tr_bind (f := fun xs _ S1 => F xs S1) hE hS q fun xs S1 m1 H1 ws s1 hE1 hS1 hr1 p1 => ⟨xs, S1, m1, hS1, hr1, p1⟩
  · exact (fa.mono hjk).call C.room C.gd C.tk I1 r a1 a2 a3
theorem ce_call0 (c : FC (wdOf X T) j x F) (C : Ctx X k W) (hjk : j ≤ k) (hg : Gl X x) (hdb : (x == ("__debug__" : Str)) = false := by decide) : CE X T W (.Call (.Name x p) [] [] pos) (dCB F dNil) := by
  obtain ⟨f, hm, hk, fa⟩ := c.ex
  refine ⟨fun pins s σ H Q I h => ?_⟩
  obtain ⟨ρ, S, m, hE, hS, q⟩ := h
  refine wpAny_Call_Name_kw (ld_glob I hg hm ?_ hdb)
  exact PySem.W.callWith_K0 I.kIn hk ((fa.mono hjk).call C.room C.gd C.tk I .nil hS RepL.nil q)
/-- the context of a def's body -/
theorem ctx_of {Z : Wd} {N : List Str} {sc : Scope} {f : Addr} {cdv : Value} {A : Around} {outer : List Env} {s : Shared} {H : Hp} {E : XK} (hr : Room k (A.deeper (envOfC x sc s.heap.objs.size f cdv))) (hg : A.guards = some []) : Ctx (Z.cx N x sc f cdv A outer s H E) k (fun c d _ H => E c d H) :=
  ⟨hr, hg, rfl, takes_of rfl rfl rfl rfl, passes_of rfl⟩
/-- the context of a comprehension's block -/
theorem Ctx.blk (C : Ctx X k W) {s : Shared} {H : Hp} {scope : Scope} {cenv : Env} {fp : List Addr} : Ctx (X.blk s H scope cenv fp) k W0 := ⟨C.room, C.gd, C.calm, takes0, PassesOwn.never⟩
end
end Mi
end
section
set_option Elab.async false
set_option linter.all false
set_option maxRecDepth 100000
set_option maxHeartbeats 2000000
namespace Mi
open PySem PySem.Spec PyProof.Rows L2

/-! ### own errors -/
abbrev veMro : List Value := [.type "ValueError", .type "Exception", .type "BaseException", .type "object"]
/-- an own error without fields, a ValueError -/
structure EC (K : PySem.W.Frag) (mg : Str → Option Value) (x : Str) : Prop where
  ex : ∃ C, mg x = some (.ref C) ∧ PySem.W.keepIn K (.ref C) = true ∧ PySem.W.excIn K C veMro "ValueError.__new__" = true ∧
    PySem.W.subIn K (.ref C) (.type "BaseException") = some true ∧ PySem.W.typeIn K (.ref C) = some (.type "type") ∧ ExcC K C
section
variable {X : Cx} {C : Addr} {bmB : List Value} {B newId initId : String}
/-- X() -/
theorem pmk_own0 {x : Str} {p pos : Pos} (F : ExcBaseFacts B newId initId bmB) (q : PySem.W.excIn X.K C bmB newId = true) (gC : X.mg x = some (.ref C)) (kC : PySem.W.keepIn X.K (.ref C) = true) (r : Raises X (.ref C)) (hg : Gl X x)
    (hdb : (x == ("__debug__" : Str)) = false := by decide) : PMk X (.Call (.Name x p) [] [] pos) (fun _ H Q => Q (.ref C) none H) := fun pins s σ H Q I h => by
  refine wpAny_Call_Name_kw (ld_glob I hg gC (PySem.W.callWith_K0 I.kIn kC ?_) hdb)
  obtain ⟨bm, N, nm, qn, bs, hdct, sn, sub, ab, col, dd, k0, k1, k2, k3, k5, mN, hC, hN, hni, T⟩ := exc_obj I.kIn q
  exact wpAny_call_exc_subT F T hC hN hni (fun h' e hm => mk_of I hm r h (I.hok.gone hm.new)) (Nat.zero_le _)
end
def dRaise (x : Str) : EnP → Sto → SR := fun ρ S => .exc x [] ρ S
theorem cs_raise0 {X : Cx} {T : Tb} {W : WX} {x : Str} {p pos pos2 : Pos} (e : EC X.K X.mg x) (hc : X.calm = true) (tk : Takes X W) (hg : Gl X x) (hdb : (x == ("__debug__" : Str)) = false := by decide) :
    CS X T W (.Raise (some (.Call (.Name x p) [] [] pos)) none pos2) (dRaise x) := by
  obtain ⟨C, h1, h2, h3, h4, h5, _⟩ := e.ex
  refine ps_imp (ps_raise hc tk (pmk_own0 PySem.F.excBase_ValueError h3 h1 h2 (raises_own h4 h5) hg hdb)) fun D σ H ⟨ρ, S, m, hE, hS, p⟩ => ?_
  exact p m H σ (.ref C) none (Step.refl m H) hS hE ⟨C, h1, rfl, fun _ => rfl, fun n => absurd rfl n⟩

/-! ### try: body, except x as n: suite (the suite looks at the error, and returns a flat value) -/
def errEnv (n i : Nat) : EnP := (List.replicate n none).set i (some .err)
def tryEnd (ρ1 : EnP) (c : Str) (fs : List (Str × PV)) (S1 : Sto) : Option Bool → SR → SR
  | some true, .rt v S2 => if flatP v = true then .rt v S1 else .bad
  | some true, _ => .bad
  | some false, _ => .exc c fs ρ1 S1
  | none, _ => .bad
def dTry (i : Nat) (cat : Str → Option Bool) (db : EnP → Sto → SR) (ds : Str → List (Str × PV) → EnP → Sto → SR) : EnP → Sto → SR := fun ρ S => match db ρ S with
  | .exc c fs ρ1 S1 => tryEnd ρ1 c fs S1 (cat c) (ds c fs (errEnv ρ1.length i) [])
  | r => r
/-- under an error -/
abbrev Tb.err (T : Tb) (d : Option (Addr × List (Str × V))) : Tb := ⟨T.tabs, T.lm, d⟩
abbrev gE (X : Cx) (T : Tb) (a : Addr) (d : Option (Addr × List (Str × V))) : Gm := ⟨X.K, X.mg, T.err d, some (.ref a)⟩
theorem flat_any {g g' : Gm} {m m' : Mm} {H H' : Hp} {x : PV} {v : V} (h : flatP x = true) (r : Rep g m H x v) : Rep g' m' H' x v := by
  cases x with
  | non => rw [rep_non r]; exact mk_non
  | bl b => rw [rep_bl r]; exact mk_bl b
  | int i => rw [rep_int r]; exact mk_int i
  | str s => rw [rep_str r]; exact mk_str s
  | _ => cases h
theorem step_hid {m m2 : Mm} {H H2 : Hp} {l : List Addr} (s : Step ⟨[], l⟩ H m2 H2) : Step m H m H2 :=
  ⟨⟨[], by simp⟩, fun _ h => h, fun a h1 h2 => absurd h1 h2, fun a h1 h2 => absurd h1 h2, fun a o _ e n => s.keep a o (by simp) e n, s.tup, s.frz⟩
theorem relS_hid {g : Gm} {m m2 : Mm} {S : Sto} {H H2 : Hp} {l : List Addr} (h : RelS g m S H) (s : Step ⟨[], l⟩ H m2 H2) (t : LamX.Tabs g.T.tabs H2) : RelS g m S H2 :=
  ⟨h.len, h.nd, fun a ha => ⟨(h.exs a ha).1, (h.exs a ha).2.imp fun vs e => ⟨s.keep a _ (by simp) e.1 e.2.nt, e.2⟩⟩, fun n xs e => by
    obtain ⟨a, vs, e1, e2, e3⟩ := h.at_ n xs e
    exact ⟨a, vs, e1, s.keep a _ (by simp) e2 e3.tr.nt, RSO.step (step_hid s) e3⟩, t⟩
theorem relS_none {g g' : Gm} {m : Mm} {S : Sto} {H : Hp} (h : RelS g m S H) (et : g'.T.tabs = g.T.tabs) : RelS g' ⟨[], m.ix ++ m.ex⟩ [] H :=
  ⟨rfl, List.nodup_nil, fun a ha => ⟨by simp, by
    rcases List.mem_append.mp ha with z | z
    · exact h.tracked z
    · exact (h.exs a z).2⟩, fun n xs e => by simp at e, by rw [et]; exact h.tab⟩
section
variable {X : Cx} {T : Tb} {W : WX} {x n : Str} {c : Value} {i : Nat} {body suite : List Stmt} {b₀ : Stmt} {np pos pos' : Pos} {db : EnP → Sto → SR} {ds : Str → List (Str × PV) → EnP → Sto → SR} {cat : Str → Option Bool}
theorem repF_int {g : Gm} {m : Mm} {H : Hp} {f : Str} {i : Int} : ∀ {fs : List (Str × PV)} {ws : List (Str × V)}, RepF g m H fs ws → fs.lookup f = some (.int i) → ws.lookup f = some (.int i)
  | [], ws, _, e => by cases e
  | (k, x) :: r, ws, h, e => by
    unfold RepF at h
    obtain ⟨v, us, rfl, r1, r2⟩ := h
    rw [List.lookup_cons] at e ⊢
    cases q : f == k with
    | true =>
      rw [q] at e
      cases e
      rw [rep_int r1]
    | false =>
      rw [q] at e
      exact repF_int r2 e
theorem cs_try (hs : X.stack = X.env :: X.outer) (hf : X.env.frame = some X.env.locals) (hN : X.N.Nodup) (hi : X.N[i]? = some n) (hln : X.env.kindOf n = some .local) (hc : Names X x c) (tk : Takes X W)
    (hcat : ∀ c' b, cat c' = some b → ∀ C, X.mg c' = some (.ref C) → PySem.W.exmOne X.K (.ref C) c = some b)
    (hb : ∀ (W : WX) (pn : List (Addr × Obj)) (xe : Value → Shared → Prop), Takes (X.tr pn xe) W → PassesOwn (model X.prog X.w) X.A X.env xe → CSs (X.tr pn xe) T W body db)
    (hsu : ∀ (c' : Str) (fs : List (Str × PV)) (C a : Addr) (oe : Obj) (d : Option Addr) (ws : List (Str × V)) (pn : List (Addr × Obj)), X.mg c' = some (.ref C) → (fs = [] → d = none) → (∀ f i, fs.lookup f = some (.int i) → d ≠ none ∧ ws.lookup f = some (.int i)) → Zc (.ref C) d oe → (∃ vs, oe.data = .fields vs) → CSs (X.suite a ((a, oe) :: pn)) (T.err (d.map fun x => (x, ws))) W0 (b₀ :: suite) (ds c' fs)) :
    CS X T W (.Try body [.ExceptHandler (some (.Name x np)) (some n) (b₀ :: suite) pos'] [] [] pos) (dTry i cat db ds) := by
  refine ps_imp (ps_try_as (tb := fun W => ts (gm X T) W db) (ts := fun a cls d D σ H => ∃ c' fs C ws, cls = .ref C ∧ X.mg c' = some (.ref C) ∧ (fs = [] → d = none) ∧ (∀ f i, fs.lookup f = some (.int i) → d ≠ none ∧ ws.lookup f = some (.int i)) ∧ ts (gE X T a (d.map fun x => (x, ws))) W0 (ds c' fs) D σ H) (Wout := W) hs hf hN hi hln hc tk hb fun a oe cls d pn hz hv => ?_) fun D σ H ⟨ρ, S, m, hE, hS, p⟩ => ⟨ρ, S, m, hE, hS, ?_⟩
  · refine ⟨fun pins s σ H D I h => ?_⟩
    obtain ⟨c', fs, C, ws, rfl, e1, e2, e3, h⟩ := h
    exact (hsu c' fs C a oe d ws pn e1 e2 e3 hz hv).run pins s σ H D I h
  · unfold dTry at p
    cases hd : db ρ S with
    | exc c' fs ρ1 S1 =>
      simp only [hd] at p
      intro m' H' σ' cls dd s hS' hE' hx
      obtain ⟨C, e1, rfl, e2, e4⟩ := hx
      cases hcb : cat c' with
      | none => simp only [hcb] at p; exact p.elim
      | some b =>
        refine ⟨b, hcat c' b hcb C e1, fun eb a na => ?_, fun eb => ?_⟩
        · subst eb
          rw [hcb] at p
          cases hds : ds c' fs (errEnv ρ1.length i) [] with
          | rt v S2 =>
            rw [hds] at p
            have pq : PostS (gm X T) W D m H (if flatP v = true then .rt v S1 else .bad) := p
            by_cases hv : flatP v = true
            · rw [if_pos hv] at pq
              have v1 := hv
              obtain ⟨W1, hW1, hW2⟩ : ∃ ws : List (Str × V), (∀ f i, fs.lookup f = some (.int i) → dd ≠ none ∧ ws.lookup f = some (.int i)) ∧ ∀ d, dd = some d → H' d = some (.xd ws) := by
                by_cases fe : fs = []
                · exact ⟨[], (fun f i e => by rw [fe] at e; cases e), (fun d e => by rw [e2 fe] at e; cases e)⟩
                · obtain ⟨d', ws, q1, q2, q3⟩ := e4 fe
                  exact ⟨ws, (fun f i e => ⟨by rw [q1]; simp, repF_int q3 e⟩), (fun d e => by rw [q1] at e; cases e; exact q2)⟩
              refine ⟨c', fs, C, W1, rfl, e1, e2, hW1, errEnv ρ1.length i, [], ⟨[], m'.ix ++ m'.ex⟩, ⟨?_, fun j u ej => ?_⟩, relS_none hS' rfl, ?_⟩
              · unfold errEnv
                rw [List.length_set, List.length_replicate, List.length_set, hE'.len]
              · unfold errEnv at ej
                by_cases hj : i = j
                · subst hj
                  by_cases hl : i < ρ1.length
                  · rw [List.getElem?_set_self (by rw [List.length_replicate]; exact hl)] at ej
                    cases ej
                    refine ⟨.ref a, by rw [List.getElem?_set_self (by rw [← hE'.len]; exact hl)], ?_⟩
                    unfold Rep
                    refine ⟨a, rfl, rfl, fun d ws' ed => ?_⟩
                    have ed : dd.map (fun x => (x, W1)) = some (d, ws') := ed
                    cases dd with
                    | none => cases ed
                    | some d0 =>
                      cases ed
                      have q2 := hW2 _ rfl
                      refine ⟨⟨by simp, fun z => ?_⟩, q2⟩
                      rcases List.mem_append.mp z with y | y
                      · obtain ⟨u, e, t⟩ := hS'.tracked y
                        rw [q2] at e; cases e
                        rcases t with ⟨_, t⟩ | ⟨_, t⟩ | ⟨_, _, t⟩ <;> cases t
                      · obtain ⟨u, e, t⟩ := (hS'.exs _ y).2
                        rw [q2] at e; cases e
                        rcases t with ⟨_, t⟩ | ⟨_, t⟩ | ⟨_, _, t⟩ <;> cases t
                  · rw [List.getElem?_eq_none (by rw [List.length_set, List.length_replicate]; omega)] at ej; cases ej
                · rw [List.getElem?_set_ne hj, List.getElem?_replicate] at ej
                  split at ej <;> cases ej
              · rw [hds]
                intro m2 H2 w s2 hS2 hr
                have t2 : LamX.Tabs T.tabs H2 := hS2.tab
                exact pq m' H2 w (s.trans (step_hid s2)) (relS_hid hS' s2 t2) (flat_any v1 hr)
            · rw [if_neg hv] at pq; exact pq.elim
          | _ => rw [hds] at p; exact p.elim
        · subst eb
          rw [hcb] at p
          have p2 : PostS (gm X T) W D m H (.exc c' fs ρ1 S1) := by
            cases hds : ds c' fs (errEnv ρ1.length i) [] <;> (rw [hds] at p; exact p)
          exact p2 m' H' σ' (.ref C) dd s hS' hE' ⟨C, e1, rfl, e2, by assumption⟩
    | _ => simp only [hd] at p; exact p
/-- isinstance(error, C) in a suite -/
def fIsE (isT : PV → Option Bool) : List PV → Sto → Res PV
  | [.err, t], S => match isT t with
    | some b => .ok (.bl b) S
    | none => .bad
  | _, _ => .bad
/-- what the classes say: c's errors are of the type t -/
def IsT (K : PySem.W.Frag) (mg : Str → Option Value) (C : Addr) (isT : PV → Option Bool) : Prop :=
  (∀ x b, isT (.glb x) = some b → ∀ D, mg x = some (.ref D) → PySem.W.kitOne K (.ref C) (.ref D) = some b) ∧ (∀ n b, isT (.ty n) = some b → PySem.W.kitOne K (.ref C) (.type n) = some b) ∧
    ∀ t, (∀ x, t ≠ .glb x) → (∀ n, t ≠ .ty n) → isT t = none
theorem sl_isE {a D : Addr} {pn : List (Addr × Obj)} {isT : PV → Option Bool} (ht : IsT X.K X.mg D isT) : SndL (gm (X.suite a pn) T) (rIsE X.K D a) (fIsE isT) := by
  intro W σ m S H xs vs Q hS r p
  unfold fIsE at p
  split at p
  · rename_i t
    obtain ⟨v, u, rfl, r1, r2⟩ := two_rep r
    unfold Rep at r1
    obtain ⟨a', e1, rfl, _⟩ := r1
    have e1 : some (Value.ref a) = some (.ref a') := e1
    cases e1
    split at p
    · rename_i b eb
      cases t with
      | glb x =>
        unfold Rep at r2
        obtain ⟨Dx, e2, rfl⟩ := r2
        exact ⟨.ref Dx, .ref Dx, b, rfl, fun u hu => hu, ht.1 x b eb Dx e2, p.here hS (mk_bl b)⟩
      | ty n =>
        cases rep_ty r2
        exact ⟨.ty n, .type n, b, rfl, fun u hu => hu, ht.2.1 n b eb, p.here hS (mk_bl b)⟩
      | _ => rw [ht.2.2 _ (fun x z => by cases z) (fun n z => by cases z)] at eb; cases eb
    · exact p.elim
  · exact p.elim
/-- isinstance(error, C) in a suite, the error with fields -/
def rIsEd (K : PySem.W.Frag) (D a dx : Addr) : List V → Hp → VK → Prop := fun vs G R => ∃ (c : V) (u : Value) (ans : Bool), vs = [.ref a, c] ∧ (∀ z, RelV c z → z = u) ∧ PySem.W.kitOne K (.ref D) u = some ans ∧ (∃ ws, G dx = some (.xd ws)) ∧ R (.bl ans) G
theorem call_isEd {X : Cx} {a D dx : Addr} {oe : Obj} {pn : List (Addr × Obj)} (hD : ExcC X.K D) (hz : Zc (.ref D) (some dx) oe) (hf : ∃ vs, oe.data = .fields vs) : CallR (X.suite a ((a, oe) :: pn)) (.builtin "isinstance") (rIsEd X.K D a dx) := by
  intro pz sz σz G vs us R J rv hh
  obtain ⟨c, u, ans, rfl, hu, e1, ⟨ws, hw⟩, q⟩ := hh
  cases rv with
  | cons r1 rs =>
    cases rs with
    | cons r2 rs =>
      cases rs
      cases r1
      cases hu _ r2
      obtain ⟨at_, _⟩ := J.pin (a, oe) (List.mem_append_left _ (List.mem_cons_self))
      obtain ⟨mA, ⟨od, es, ep, ho, _⟩, _⟩ := J.hok dx _ hw
      obtain ⟨fs, hfs⟩ := hf
      obtain ⟨oc, odi, oda, osl⟩ := oe
      obtain ⟨z1, z2⟩ := hz
      dsimp only at z1 z2 hfs
      subst z1 z2 hfs
      have ia : PySem.W.InstAt sz.heap a _ D (some od) := ⟨at_, rfl, rfl, ho⟩
      have cls : (PySem.W.clsIn X.K D).isSome = true := by
        obtain ⟨cd, hc, _⟩ := PySem.W.any_some hD.hd
        rw [hc]; rfl
      exact PySem.W.kia_one (PySem.W.kitx_exc cls hD.hg hD.hk hD.hs hD.ha hD.hn hD.ht hD.hm) J.kIn ia e1 (by intro z; cases z) fun tk => ⟨.bl ans, G, J.kept (t' := tk) (by intro _ _ z; exact z), rfl, q⟩
theorem sl_isEd {a D dx : Addr} {ws : List (Str × V)} {pn : List (Addr × Obj)} {isT : PV → Option Bool} (he : T.ed = some (dx, ws)) (ht : IsT X.K X.mg D isT) : SndL (gm (X.suite a pn) T) (rIsEd X.K D a dx) (fIsE isT) := by
  intro W σ m S H xs vs Q hS r p
  unfold fIsE at p
  split at p
  · rename_i t
    obtain ⟨v, u, rfl, r1, r2⟩ := two_rep r
    unfold Rep at r1
    obtain ⟨a', e1, rfl, r3⟩ := r1
    obtain ⟨_, hd0⟩ := r3 dx ws he
    have hd : ∃ ws, H dx = some (.xd ws) := ⟨ws, hd0⟩
    have e1 : some (Value.ref a) = some (.ref a') := e1
    cases e1
    split at p
    · rename_i b eb
      cases t with
      | glb x =>
        unfold Rep at r2
        obtain ⟨Dx, e2, rfl⟩ := r2
        exact ⟨.ref Dx, .ref Dx, b, rfl, fun u hu => hu, ht.1 x b eb Dx e2, hd, p.here hS (mk_bl b)⟩
      | ty n =>
        cases rep_ty r2
        exact ⟨.ty n, .type n, b, rfl, fun u hu => hu, ht.2.1 n b eb, hd, p.here hS (mk_bl b)⟩
      | _ => rw [ht.2.2 _ (fun x z => by cases z) (fun n z => by cases z)] at eb; cases eb
    · exact p.elim
  · exact p.elim
end

/-! ### l.count(x) of plain data -/
def fCount (x y : PV) (S : Sto) : Res PV := match toDS x S, toD y with
  | some (.list ds), some d => if PyData.plainAll ds = true ∧ d.plain = true ∧ d.depth ≤ 9 then .ok (.int ((ds.countP fun z => PyData.eqv z d : Nat) : Int)) S else .bad
  | _, _ => .bad
def rCountD (K : PySem.W.Frag) : V → List V → Hp → VK → Prop := fun x xs H Q => ∃ (a : Addr) (y : V) (d : PyData) (ds : List PyData), x = V.ref a ∧ xs = [y] ∧ Dp K H (V.ref a) (.list ds) ∧ Dp K H y d ∧
  PyData.plainAll ds = true ∧ d.plain = true ∧ d.depth ≤ 9 ∧ Q (.int ((ds.countP fun z => PyData.eqv z d : Nat) : Int)) H
theorem mt_countD {X : Cx} (hu : X.A.units + 65 < cLine) : MtR X "list.count" (rCountD X.K) := by
  intro pins s σ H x xs v us Q I rx rxs h
  obtain ⟨a, y, d, ds, rfl, rfl, hl, hy, h1, h2, h3, q⟩ := h
  cases rx
  cases rxs with
  | cons ry rt =>
    cases rt
    obtain ⟨bs, r1⟩ := Dp.reads I d y _ hy ry
    cases hl with
    | lst hs ha =>
      obtain ⟨its, rv, pl, hlen⟩ := I.list hs
      obtain ⟨as, h4⟩ := Dp.readsAll I ds _ its ha rv
      exact SeqAt.count_list_data pl.isList (by simpa using h4) r1 h1 h2 (by omega) ⟨.int _, H, I.tok _, ⟨_, rfl⟩, q⟩
def count1 (x : PV) (S : Sto) : List PV → Res PV
  | [y] => fCount x y S
  | _ => .bad
def dCount (d : EnP → Sto → Res PV) (dl : EnP → Sto → Res (List PV)) : EnP → Sto → Res PV := fun ρ S => (d ρ S).bind fun x S1 => if (lstOf x S1).isSome = true then (dl ρ S1).bind fun ys S2 => count1 x S2 ys else .bad
theorem type_list_count : typeOf (.builtin "list.count") = pure (.type "method_descriptor") := by show builtinType "list.count" = _; first | rfl | kernel_rfl
section
variable {X : Cx} {T : Tb} {W : WX} {o e : Expr} {es : List Expr} {d : EnP → Sto → Res PV} {dl : EnP → Sto → Res (List PV)} {apos cpos : Pos}
theorem ce_count (hu : X.A.units + 65 < cLine) (ho : CE X T W o d) (ha : CA X T W (e :: es) dl)
    (hbase : attributeBase o "count" X.env (eval o X.env) = eval o X.env := by rfl)
    (hfew : ((backTo cpos (starEach (e :: es) X.env)).all (fun x => !x.1) && (backToKw cpos (keywordEach [] X.env)).all (fun x => x.1.isSome)
      && decide ((e :: es).length + ([] : List Keyword).length + (if ([] : List Keyword).isEmpty then 0 else 1) < 30)) = true := by rfl)
    (hline : (apos.endLine == cpos.line) = true := by rfl) (hs : starEach (e :: es) X.env = (false, eval e X.env) :: starEach es X.env := by rfl) (hplain : (backTo cpos (starEach es X.env)).any (·.1) = false := by rfl) :
    CE X T W (.Call (.Attribute o "count" apos) (e :: es) [] cpos) (dCount d dl) :=
  pe_imp (pe_bm PySem.F.plainAttrs_list PySem.F.slot_list_count type_list_count (mt_countD hu) ho ha hbase hfew hline hs hplain) fun σ H Q ⟨ρ, S, m, hE, hS, p⟩ =>
    tr_bind (f := fun (x : PV) (ρ : EnP) (S1 : Sto) => if (lstOf x S1).isSome = true then (dl ρ S1).bind fun ys S2 => count1 x S2 ys else .bad) hE hS p fun x S1 m1 H1 w s1 hE1 hS1 hr1 p1 => by
      cases e0 : lstOf x S1 with
      | none => rw [e0] at p1; exact p1.elim
      | some xs0 =>
        rw [e0, if_pos (show (some xs0).isSome = true from rfl)] at p1
        obtain ⟨a, vs0, rfl, f1, _⟩ := lstOf_rep hS1 hr1 e0
        refine ⟨.inl ⟨rfl, vs0, f1⟩, tr_bind (f := fun (ys : List PV) (_ : EnP) (S2 : Sto) => count1 x S2 ys) hE1 hS1 p1 fun ys S2 m2 H2 ws s2 hE2 hS2 hr2 p2 => ?_⟩
        unfold count1 at p2
        split at p2
        · rename_i y
          obtain ⟨u, rfl, ru⟩ := one_rep hr2
          unfold fCount at p2
          split at p2
          · rename_i ds dd h1 h2
            split at p2
            · rename_i h
              exact ⟨a, u, dd, ds, rfl, rfl, dpS_of hS2 (hr1.step s2) h1, dp_of y u dd ru h2, h.1, h.2.1, h.2.2, p2.here hS2 (mk_int _)⟩
            · exact p2.elim
          · exact p2.elim
        · exact p2.elim
end
end Mi
end
section
set_option Elab.async false
set_option linter.all false
set_option maxRecDepth 100000
set_option maxHeartbeats 2000000
namespace Mi
open PySem PySem.Spec PyProof.Rows L2

/-! ### a lambda without parameters, handed to a def -/
theorem gm_bare {X : Cx} {T : Tb} (h : X.A.handled = none) (ht : T.lm = none) : Bare (gm X T) := by
  show Gm.mk X.K X.mg ⟨T.tabs, none, T.ed⟩ none = Gm.mk X.K X.mg T X.A.handled
  rw [h, ← ht]
/-- what stays while it may be called: its names' values, its code -/
def lamI (g : Gm) (f c' : Addr) (q : Str) (ρ : EnP) (σ : L2.St) : LmI :=
  ⟨f, fun m H => RelE g m H ρ σ ∧ m.no c' ∧ H c' = some (LamX.CodeO c' q), fun m H m' H' e ⟨h1, h2, h3⟩ => by
    obtain ⟨k1, k2⟩ := e.keep c' _ h2 h3 (fun ps z => LamX.codeO_ne ps z) (fun k z => by unfold LamX.CodeO at z; cases z)
    exact ⟨h1.emw e, k1, k2⟩⟩
def dAct (i : Nat) (C : Sto → Res PV) : EnP → Sto → Res PV := fun ρ S => match ρ[i]? with
  | some (some .lam) => C S
  | _ => .bad
theorem relS_as {g g' : Gm} {m : Mm} {S : Sto} {H : Hp} (e : g.bare = g'.bare) (h : RelS g m S H) : RelS g' m S H :=
  ⟨h.len, h.nd, h.exs, fun n xs q => by rw [← e]; exact h.at_ n xs q, by have := congrArg (fun z : Gm => z.T.tabs) e; exact this ▸ h.tab⟩
theorem repF_up {g : Gm} {m : Mm} {H : Hp} : ∀ {fs : List (Str × PV)} {ws : List (Str × V)}, RepF g.bare m H fs ws → RepF g m H fs ws
  | [], _, h => h
  | (f, x) :: r, _, h => by
    unfold RepF at h ⊢
    obtain ⟨v, us, e, h1, h2⟩ := h
    exact ⟨v, us, e, Rep.up x v h1, repF_up h2⟩
theorem excR_up {g : Gm} {m : Mm} {H : Hp} {c : Str} {fs : List (Str × PV)} {cls : Value} {dd : Option Addr} (h : ExcR g.bare m H c fs cls dd) : ExcR g m H c fs cls dd := by
  obtain ⟨C, h1, h2, h3, h4⟩ := h
  refine ⟨C, h1, h2, h3, fun n => ?_⟩
  obtain ⟨d, ws, e1, e2, e3⟩ := h4 n
  exact ⟨d, ws, e1, e2, repF_up e3⟩
/-- from the post of a wider place to that of a bare one -/
theorem post_bare {g : Gm} {W W' : WX} {σ σ' : L2.St} {m : Mm} {H : Hp} {Q : VK} {r : Res PV} (hW : ∀ c d H, W c d σ H → W' c d σ' H) (p : PostV g W σ m H Q r) : PostV g.bare W' σ' m H Q r := by
  cases r with
  | ok v S => exact fun m' H' w s h1 h2 => p m' H' w s (relS_as (g := g.bare) (g' := g) rfl h1) (Rep.up _ _ h2)
  | exc c fs S => exact fun m' H' cls dd s h1 h2 => hW _ _ _ (p m' H' cls dd s (relS_as (g := g.bare) (g' := g) rfl h1) (excR_up h2))
  | bad => exact p
section
variable {X : Cx} {T : Tb} {pins : List (Addr × Obj)} {σ : L2.St} {H : Hp} {s : Shared}
abbrev wT (T : Tb) (i : LmI) : Tb := ⟨T.tabs, some i, T.ed⟩
/-- x() in the def that got it -/
theorem lam_act {Eg : XK} {Ng : List Str} {qg : Str} {sg : Scope} {g f c' : Addr} {cdg pm ctv : Value} {params : Arguments} {body : Expr} {scope : Scope} {k i : Nat} {a : Str} {pn : List (Addr × Obj)} {xe : Value → Shared → Prop} {W : WX} {p1 p2 : Pos} {ρ : EnP} {db : EnP → Sto → Res PV}
    (I : Inv X pins σ H s) (L : LamX.LamS X.env.scope scope) (hX : X.A.handled = none) (hTl : T.lm = none) (hgX : X.A.guards = some [])
    (hf : s.heap.get? f = some (PySem.W.kla_obj "<lambda>" (X.env.qual ++ "<lambda>") params body scope (cloFrom X.env.cells scope.names []) pm c' ctv)) (hfn : H f = none) (hfr : f ∉ frs X.stack)
    (hbind : bindArgs (PySem.W.kla_fn "<lambda>" (X.env.qual ++ "<lambda>") params body scope (cloFrom X.env.cells scope.names []) pm (.ref c') ctv) ⟨[], []⟩ = pure [])
    (tk : Takes (((wdOf X T).cx Ng qg sg g cdg X.A X.stack s H Eg).tr pn xe) W) (hr : Room (k + 1) (X.A.deeper (envOfC qg sg s.heap.objs.size g cdg)))
    (hbody : ∀ (A : Around) (outer : List Env) (s1 : Shared) (H1 : Hp) (E : XK), Room k (A.deeper (LamX.lamEnv X scope s1.heap.objs.size f c')) → A.guards = some [] → CE (LamX.lamCx X A outer s1 H1 E scope f c') T (fun c d _ H => E c d H) body db)
    (hN : Ng[i]? = some a) (hv : Vis sg a) (hd : (a == ("__debug__" : Str)) = false := by decide) (hcd : (a == ("__classdict__" : Str)) = false := by decide) :
    CE (((wdOf X T).cx Ng qg sg g cdg X.A X.stack s H Eg).tr pn xe) (wT T (lamI (gm X T) f c' (X.env.qual ++ "<lambda>") ρ σ)) W (.Call (.Name a p1) [] [] p2) (dAct i fun S => db ρ S) := by
  refine ⟨fun pz sz σz Hz Q Iz ⟨ρz, S, m, hE, hS, p⟩ => ?_⟩
  unfold dAct at p
  split at p
  case h_2 => exact p.elim
  rename_i ei
  obtain ⟨w, ew, rw_⟩ := hE.at_ i _ ei
  unfold Rep at rw_
  obtain ⟨j, ej, rfl, hΦ⟩ := rw_
  cases ej
  obtain ⟨hEx, hno, hco⟩ := hΦ
  refine wpAny_Call_Name_kw (thn ((pe_var (pos := p1) (i := i) hN hv hd hcd).run pz sz σz Hz (fun v H1 => v = .ref f ∧ H1 = Hz) Iz ⟨.ref f, ew, rfl, rfl⟩) fun u s1 ⟨v, H1, I1, r1, q1, q2⟩ => ?_)
  rw [q1] at r1
  rw [q2] at I1
  obtain rfl : u = Value.ref f := r1
  have here : s1.heap.get? f = some (PySem.W.kla_obj "<lambda>" (X.env.qual ++ "<lambda>") params body scope (cloFrom X.env.cells scope.names []) pm c' ctv) := I1.base.keep f _ hf hfn hfr (fun z => nomatch (show f ∈ ([] : List Addr) from z))
  have un : Un (frs X.stack) [] H Hz s.heap s1.heap := I1.base
  obtain ⟨⟨oc, us, t, hoc, hdc, hvc⟩, _, _⟩ := I1.hok c' _ hco
  have hAd : (X.A.deeper (envOfC qg sg s.heap.objs.size g cdg)).handled = none := hX
  have pb : PostV (gm X T) (fun c d _ H => W c d σz H) σ m Hz Q (db ρ S) := by
    have q := post_bare (W' := fun c d _ H => W c d σz H) (σ' := σ) (fun _ _ _ h => h) p
    rw [← gm_bare hX hTl]
    exact q
  refine PySem.W.callWith_F0 ⟨_, _, _, _, here⟩ (wpAny_call (codeAny_mono (R := CR (L2.CX X.prog X.w) (envOfC qg sg s.heap.objs.size g cdg :: X.stack) X.prog X.w Hz s1 Q (fun c d H => W c d σz H)) ?_ fun r s' hq => ?_))
  · refine PySem.W.kla_callFunE hr.depth here rfl L.co L.gen rfl ⟨c', oc, us, t, rfl, hoc, hdc, hvc⟩ ?_
    rw [List.append_nil, hbind]
    refine wpAny_pure (wpAny_newFunctionEnv (fun y hy => (L.own y hy).2) (fun y hy => absurd hy (by simp)) (fun h₁ hns hsb => ⟨I1.nolimit.fresh _ hsb, ?_⟩) L.kind)
    show codeAny _ _ (.expr body (LamX.lamEnv X scope s1.heap.objs.size f c')) _ _
    have J := LamX.lam_start2 (E := fun c d H => W c d σz H) (f := f) (c' := c') (tk := s1.toks + ([] : List (Str × Value)).length) I L I1.env0 hAd un hns fun b o e => hsb.extBut b o (Nat.ne_of_lt (Heap.lt_size e)) (Heap.get?_push_of_some _ e)
    have hb := hbody _ (envOfC qg sg s.heap.objs.size g cdg :: X.stack) s1 Hz (fun c d H => W c d σz H) (hr.deeper _) hgX
    have eg : gm X T = gm (LamX.lamCx X (X.A.deeper (envOfC qg sg s.heap.objs.size g cdg)) (envOfC qg sg s.heap.objs.size g cdg :: X.stack) s1 Hz (fun c d H => W c d σz H) scope f c') T := rfl
    refine PySem.W.kla_codeExpr (wpAny_mono (hb.run [] _ σ Hz Q J ⟨ρ, S, m, hEx, ?_, pb⟩) (fun v s' hq => ?_) fun e s' hq => hq)
    · exact relS_as (by show Gm.bare _ = Gm.bare _; rfl) hS
    · obtain ⟨w', H', J', rv, q⟩ := hq
      exact ⟨w', H', J'.os, J'.bare, J'.base, J'.hok, rv, q⟩
  · cases r with
    | error e => exact tk e s' (XE.of_call I1 (fun _ _ _ h => h) hq)
    | ok fl =>
      cases fl with
      | ret u => exact I1.after hq
      | _ => exact False.elim hq
end
/-! ### the def that gets it -/
def cleanR : Res PV → Res PV
  | .ok v S => if flatP v = true then .ok v S else .bad
  | .exc c [] S => .exc c [] S
  | _ => .bad
structure FL (Z : Wd) (k : Nat) (x : Str) (G : (Sto → Res PV) → Sto → Res PV) : Prop where
  ex : ∃ (g : Addr) (st : Stmt) (cdv : Value) (N : List Str) (a : Str) (d : (Sto → Res PV) → EnP → Sto → SR), Z.mg x = some (.ref g) ∧ PySem.W.keepIn Z.K (.ref g) = true ∧ FunC Z.K x st g cdv ∧ FnScope N [a] (defScope st) ∧ BindC x st [a] ∧
    N[0]? = some a ∧ Vis (defScope st) a ∧ (a == ("__debug__" : Str)) = false ∧ (a == ("__classdict__" : Str)) = false ∧ (∀ C S, G C S = cleanR (runF 1 N.length (d C) [.lam] S)) ∧
    ∀ (i : LmI) (C : Sto → Res PV) (A : Around) (outer : List Env) (s : Shared) (H : Hp) (E : XK), Room k (A.deeper (envOfC x (defScope st) s.heap.objs.size g cdv)) → A.guards = some [] →
      (∀ (pn : List (Addr × Obj)) (xe : Value → Shared → Prop) (W : WX) (p1 p2 : Pos), Takes ((Z.cx N x (defScope st) g cdv A outer s H E).tr pn xe) W → CE ((Z.cx N x (defScope st) g cdv A outer s H E).tr pn xe) (wT Z.T i) W (.Call (.Name a p1) [] [] p2) (dAct 0 C)) →
      CSs (Z.cx N x (defScope st) g cdv A outer s H E) (wT Z.T i) (fun c d _ H => E c d H) (defBody st) (d C)
theorem step_extN {m : Mm} {H H1 : Hp} (e : LamX.ExtN H H1) : Step m H m H1 :=
  ⟨⟨[], by simp⟩, fun _ h => h, fun a h1 h2 => absurd h1 h2, fun a h1 h2 => absurd h1 h2, fun a o _ q n => e a o q n, fun a xs q => e a _ q (fun ps z => by cases z), fun a o u q => e a _ q (fun ps z => by cases z)⟩
theorem relS_extN {g : Gm} {m : Mm} {S : Sto} {H H1 : Hp} (h : RelS g m S H) (e : LamX.ExtN H H1) (t : LamX.Tabs g.T.tabs H1) : RelS g m S H1 :=
  ⟨h.len, h.nd, fun a ha => ⟨(h.exs a ha).1, (h.exs a ha).2.imp fun vs q => ⟨e a _ q.1 q.2.nt, q.2⟩⟩, fun n xs q => by
    obtain ⟨a, vs, e1, e2, e3⟩ := h.at_ n xs q
    exact ⟨a, vs, e1, e a _ e2 e3.tr.nt, RSO.step (step_extN e) e3⟩, t⟩
/-- back to the place of the call: what came is flat, or an error without fields -/
theorem post_wide {X Y : Cx} {T : Tb} {i : LmI} {W W' : WX} {σ σ' : L2.St} {m : Mm} {H : Hp} {Q : VK} {r : Res PV} (eK : Y.K = X.K) (eM : Y.mg = X.mg) (hb : Bare (gm X T)) (hW : ∀ c d H, W c d σ H → W' c d σ' H) (p : PostV (gm X T) W σ m H Q (cleanR r)) : PostV (gm Y (wT T i)) W' σ' m H Q r := by
  have eb : (gm Y (wT T i)).bare = (gm X T).bare := by
    show Gm.mk Y.K Y.mg _ _ = Gm.mk X.K X.mg _ _
    rw [eK, eM]
  cases r with
  | ok v S =>
    simp only [cleanR] at p
    by_cases hf : flatP v = true
    · rw [if_pos hf] at p
      exact fun m' H' w s h1 h2 => p m' H' w s (relS_as eb h1) (flat_any hf h2)
    · rw [if_neg hf] at p; exact p.elim
  | exc c fs S =>
    cases fs with
    | nil =>
      intro m' H' cls dd s h1 ⟨C, k1, k2, k3, k4⟩
      exact hW _ _ _ (p m' H' cls dd s (relS_as eb h1) ⟨C, by show X.mg c = _; rw [← eM]; exact k1, k2, k3, fun n => absurd rfl n⟩)
    | cons f r => exact p.elim
  | bad => exact p.elim
section
variable {X : Cx} {T : Tb} {W : WX}
theorem ce_lam {x : Str} {G : (Sto → Res PV) → Sto → Res PV} {kF kl j : Nat} {c P : Addr} {params : Arguments} {body : Expr} {scope : Scope} {p lpos pos : Pos} {db : EnP → Sto → Res PV} (F : FL (wdOf X T) kF x G) (Cx_ : Ctx X j W) (hk1 : kF ≤ kl + 1) (hk2 : kl + 2 ≤ j) (hTl : T.lm = none)
    (hg : Gl X x) (TB : LamX.TabB X.base X.mg c P) (hcode : X.env.code = .ref c) (hmT : (P, X.env.qual ++ "<lambda>") ∈ T.tabs) (hu : ∀ p ∈ T.tabs, p.1 = P → p.2 = X.env.qual ++ "<lambda>") (L : LamX.LamS X.env.scope scope) (hdef : defaultsOf params X.env = ([], []))
    (hbind : ∀ (q : Str) (cl : List (Str × Addr)) (pm cv ctv : Value), bindArgs (PySem.W.kla_fn "<lambda>" q params body scope cl pm cv ctv) ⟨[], []⟩ = pure [])
    (hbody : ∀ (A : Around) (outer : List Env) (s1 : Shared) (H1 : Hp) (E : XK) (f c' : Addr), Room kl (A.deeper (LamX.lamEnv X scope s1.heap.objs.size f c')) → A.guards = some [] → CE (LamX.lamCx X A outer s1 H1 E scope f c') T (fun c d _ H => E c d H) body db)
    (hdb : (x == ("__debug__" : Str)) = false := by decide) : CE X T W (.Call (.Name x p) [.Lambda params body scope lpos] [] pos) (fun ρ S => G (fun S => db ρ S) S) := by
  obtain ⟨g, st, cdv, N, a, d, hm, hk, FC_, Sc, hbd, hN0, hva, hd1, hd2, hG, hB⟩ := F.ex
  refine ⟨fun pins s σ H Q I ⟨ρ, S, m, hE, hS, q⟩ => ?_⟩
  refine wpAny_Call_Name_kw (ld_glob I hg hm ?_ hdb)
  refine PySem.W.callWith_K (h₀ := X.base) I.ok.mod.kin hk ?_ (by rfl) (by rfl)
  show wpAny _ _ (spliced ((false, eval (.Lambda params body scope lpos) X.env) :: backTo pos (starEach [] X.env))) _ _ s
  refine Calls.spliced_cons (LamX.lam_make2 I TB hcode hmT hu hS.tab hdef (L.has I.ok) fun f c' pm' ctv H1 s' I1 eN T1 hf hfn hfr hco => Calls.spliced_nil ⟨I1.kIn, ?_⟩)
  have hS1 := relS_extN hS eN T1
  have st1 : Step m H m H1 := step_extN eN
  have hE1 := hE.step st1
  have nlst : ∀ u, H1 c' = some u → ¬ Tr u := fun u e t => by
    rw [hco] at e
    unfold LamX.CodeO at e
    cases e
    rcases t with ⟨_, q⟩ | ⟨_, q⟩ | ⟨_, _, q⟩ <;> cases q
  have nc : m.no c' := by
    refine ⟨fun z => ?_, fun z => ?_⟩
    · obtain ⟨vs, e, t⟩ := hS1.tracked z
      exact nlst vs e t
    · obtain ⟨_, vs, e, t⟩ := hS1.exs c' z
      exact nlst vs e t
  have hX := Cx_.room.hd
  have hbr : Bare (gm X T) := gm_bare hX hTl
  have q1 : PostV (gm X T) W σ m H1 Q (cleanR (runF 1 N.length (d fun S => db ρ S) [.lam] S)) := by
    have q0 : PostV (gm X T) W σ m H1 Q (G (fun S => db ρ S) S) := PostR.step st1 q
    rw [hG] at q0
    exact q0
  let i : LmI := lamI (gm X T) f c' (X.env.qual ++ "<lambda>") ρ σ
  let Y : Cx := (wdOf X T).cx N x (defScope st) g cdv X.A X.stack s' H1 (fun c d H => W c d σ H)
  have q2 : PostV (gm Y (wT T i)) (fun c d _ H => W c d σ H) (L2.start N [.ref f]) m H1 Q (endOf (d (fun S => db ρ S) (startP N.length [.lam]) S)) := by
    refine post_wide (X := X) (Y := Y) rfl rfl hbr (fun _ _ _ h => h) (σ := σ) (W := W) ?_
    have e : runF 1 N.length (d fun S => db ρ S) [.lam] S = endOf (d (fun S => db ρ S) (startP N.length [.lam]) S) := rfl
    rw [← e]
    exact q1
  have rx : RepL (gm Y (wT T i)) m H1 [.lam] [.ref f] := RepL.cons (by unfold Rep; exact ⟨i, rfl, rfl, hE1, nc, hco⟩) RepL.nil
  have hS2 : RelS (gm Y (wT T i)) m S H1 := relS_as (by show Gm.bare _ = Gm.bare _; rfl) hS1
  have hr2 : Room (kl + 2) X.A := Cx_.room.mono hk2
  have body1 := hB i (fun S => db ρ S) X.A X.stack s' H1 (fun c d H => W c d σ H) ((hr2.deeper _).mono hk1) Cx_.gd fun pn xe W' p1 p2 tk' => lam_act (p1 := p1) (p2 := p2) (ρ := ρ) (db := db) I1 L hX hTl Cx_.gd hf hfn hfr (hbind _ _ _ _ _) tk' (hr2.deeper _) (fun A outer s1 H2 E h1 h2 => hbody A outer s1 H2 E f c' h1 h2) hN0 hva hd1 hd2
  have run := run_body (k := kl + 1) (E := fun c d H => W c d σ H) (Q := Q) FC_ Sc hbd hr2 I1.env0 (show Vals [V.ref f] [Value.ref f] from .cons rfl .nil) rfl body1 ⟨_, S, m, start_rel rx, hS2, endOf_post (fun _ _ _ _ _ h => h) q2⟩
  refine wpAny_call (codeAny_mono run fun r s2 hq => ?_)
  cases r with
  | error e => exact Cx_.tk e s2 (XE.of_call I1 (fun _ _ _ h => h) hq)
  | ok fl =>
    cases fl with
    | ret u => exact I1.after hq
    | _ => exact False.elim hq
end
/-! ### a call of what a name holds: a def of the module -/
def dCallV (i : Nat) (tbl : Str → Option (List PV → Sto → Res PV)) (dl : EnP → Sto → Res (List PV)) : EnP → Sto → Res PV := fun ρ S => match ρ[i]? with
  | some (some (.glb x)) => (match tbl x with
    | some F => (dl ρ S).bind fun xs S1 => F xs S1
    | none => .bad)
  | _ => .bad
section
variable {X : Cx} {T : Tb} {W : WX}
theorem ce_callV {j k i : Nat} {y : Str} {p pos : Pos} {e : Expr} {es : List Expr} {dl : EnP → Sto → Res (List PV)} {tbl : Str → Option (List PV → Sto → Res PV)} (C : Ctx X k W) (c : ∀ x F, tbl x = some F → FC (wdOf X T) j x F) (hjk : j ≤ k) (hN : X.N[i]? = some y) (hv : Vis X.env.scope y) (ha : CA X T W (e :: es) dl)
    (hd : (y == ("__debug__" : Str)) = false := by decide) (hcd : (y == ("__classdict__" : Str)) = false := by decide)
    (he : starEach (e :: es) X.env = (false, eval e X.env) :: starEach es X.env := by rfl) (hpl : (backTo pos (starEach es X.env)).any (·.1) = false := by rfl) : CE X T W (.Call (.Name y p) (e :: es) [] pos) (dCallV i tbl dl) := by
  refine ⟨fun pins s σ H Q I ⟨ρ, S, m, hE, hS, q⟩ => ?_⟩
  unfold dCallV at q
  split at q
  case h_2 => exact q.elim
  rename_i x ei
  cases et : tbl x with
  | none => rw [et] at q; exact q.elim
  | some F =>
    rw [et] at q
    obtain ⟨w, ew, rw_⟩ := hE.at_ i _ ei
    unfold Rep at rw_
    obtain ⟨f0, hm0, rfl⟩ := rw_
    obtain ⟨f, hm, hk, fa⟩ := (c x F et).ex
    have ef : f0 = f := by
      have z := hm0.symm.trans hm
      cases z
      rfl
    subst ef
    refine wpAny_Call_Name_kw (thn ((pe_var (pos := p) (i := i) hN hv hd hcd).run pins s σ H (fun v H1 => v = .ref f0 ∧ H1 = H) I ⟨.ref f0, ew, rfl, rfl⟩) fun u s1 ⟨v, H1, I1, r1, q1, q2⟩ => ?_)
    rw [q1] at r1
    rw [q2] at I1
    obtain rfl : u = Value.ref f0 := r1
    refine PySem.W.callWith_K (h₀ := X.base) I1.ok.mod.kin hk (thn (ha.run pos pins s1 σ H (fun vs H1 => ∃ xs S1 m1, RelS (gm X T) m1 S1 H1 ∧ RepL (gm X T) m1 H1 xs vs ∧ PostV (gm X T) W σ m1 H1 Q (F xs S1)) I1 ?_) fun us s2 ⟨vs, H2, I2, r, xs, S1, m1, a1, a2, a3⟩ => ⟨I2.kIn, (fa.mono hjk).call C.room C.gd C.tk I2 r a1 a2 a3⟩) he hpl
    exact tr_bind (f := fun xs _ S1 => F xs S1) hE hS q fun xs S1 m1 H1 ws s1 hE1 hS1 hr1 p1 => ⟨xs, S1, m1, hS1, hr1, p1⟩
end
end Mi
end
section
set_option Elab.async false
set_option linter.all false
set_option maxRecDepth 100000
set_option maxHeartbeats 2000000
namespace Mi
open PySem PySem.Spec PyProof.Rows L2

/-! ### the end of a law -/
/-- a lambda's maker: its code object, the table of the code objects under it, the lambdas' name -/
structure Lt where
  code : Addr
  tab : Addr
  q : Str
abbrev tabOf (cs : List Lt) : Tb := ⟨cs.map fun c => (c.tab, c.q), none, none⟩
abbrev T0 : Obj := { cls := .none, data := .fields #[] }
/-- what is tracked when the law is called: the tables, and the script if it is no written one -/
def topH (K : PySem.W.Frag) (cs : List Lt) (a : Addr) (vs : List Value) (ns : List Int) : Hp := fun b =>
  if b ∈ cs.map (·.tab) then some (.tbl #[]) else if b = a ∧ K.lookup a = none then some (.frz { cls := .type "list", data := .seq vs.toArray } (.lst (ns.map V.int))) else none
/-- the state at the law's call, told to a def's promise -/
structure TopOk (P : Program) (w : World) (K : PySem.W.Frag) (mg : Str → Option Value) (cs : List Lt) (a : Addr) (ns : List Int) (base : Heap) (s₁ : Shared) (H : Hp) : Prop where
  env : Env0 P w K mg base callerA [] s₁ H
  tabs : ∀ c ∈ cs, H c.tab = some (.tbl #[])
  tabB : ∀ c ∈ cs, LamX.TabB base mg c.code c.tab
  scr : (∃ o, H a = some (HO.frz o (HO.lst (ns.map V.int)))) ∨ SqL K H0 a (ns.map V.int)
theorem run_top {P : Program} {w : World} {K : PySem.W.Frag} {mg mb : Str → Option Value} {fa a : Addr} {cs : List Lt} {s₁ : Shared} {vs : List Value} {ns : List Int}
    (KX : K.In s₁.heap) (hns : s₁.heap.Ns mainGlobals mg) (hb : s₁.heap.Ns builtinsNs mb) (hbb : ∀ x : Str, x ≠ "__name__" → mb x = bootBuiltins x) (hlim : s₁.heap.NoLimit) (hg : s₁.gens = #[])
    (hT : ∀ c ∈ cs, s₁.heap.get? c.tab = some T0) (nT : ∀ c ∈ cs, K.lookup c.tab = none) (hC : ∀ c ∈ cs, PySem.W.CodeHd s₁.heap c.code c.tab)
    (hbm : ∃ (bm : Addr) (ob : Obj), mg "__builtins__" = some (.ref bm) ∧ bm ≠ builtinsNs ∧ s₁.heap.get? bm = some ob ∧ ob.cls = .type "module" ∧ ob.dict = some builtinsNs ∧ ob.data = .plain)
    (ha : s₁.heap.get? a = some { cls := .type "list", data := .seq vs.toArray }) (hi : IntsAre vs ns) (hl : ns.length ≤ sizeLine)
    (F : ∀ base H, K.In base → base.Ns mainGlobals mg → TopOk P w K mg cs a ns base s₁ H → codeAny (model P w) callerA (.call (.ref fa) ⟨[.ref a], []⟩) (CR (L2.CX P w) [] P w H s₁ (fun v _ => v = .bl true) fun _ _ _ => False) s₁) :
    codeAny (model P w) callerA (.call (.ref fa) ⟨[.ref a], []⟩) (fun r s' => r = .ok (.ret (.bool true)) ∧ OldK s₁.heap s'.heap ∧ s'.os = s₁.os ∧ AllBare s'.gens) s₁ := by
  have rv := vals_ints hi
  have lenV := hi.length
  -- what stands at a tracked place
  have trk : ∀ b u, topH K cs a vs ns b = some u → (b ∈ cs.map (·.tab) ∧ u = .tbl #[] ∧ s₁.heap.get? b = some T0) ∨ (b = a ∧ K.lookup a = none ∧ b ∉ cs.map (·.tab) ∧ u = .frz { cls := .type "list", data := .seq vs.toArray } (.lst (ns.map V.int))) := fun b u e => by
    unfold topH at e
    by_cases hb : b ∈ cs.map (·.tab)
    · rw [if_pos hb] at e
      cases e
      obtain ⟨c, hc, rfl⟩ := List.mem_map.mp hb
      exact .inl ⟨hb, rfl, hT c hc⟩
    · rw [if_neg hb] at e
      by_cases h2 : b = a ∧ K.lookup a = none
      · rw [if_pos h2] at e
        cases e
        exact .inr ⟨h2.1, h2.2, hb, rfl⟩
      · rw [if_neg h2] at e
        cases e
  have tabAt : ∀ c ∈ cs, topH K cs a vs ns c.tab = some (.tbl #[]) := fun c hc => if_pos (List.mem_map.mpr ⟨c, hc, rfl⟩)
  have aT : a ∉ cs.map (·.tab) := fun z => by
    obtain ⟨c, hc, e⟩ := List.mem_map.mp z
    have q := hT c hc
    rw [e, ha] at q
    exact Data.noConfusion (congrArg Obj.data (Option.some.inj q))
  -- objects that are no lists and no empty records are not tracked
  have noT : ∀ {b : Addr} {o : Obj}, s₁.heap.get? b = some o → (∀ xs n, o.data ≠ .seq xs n) → o.data ≠ .fields #[] → topH K cs a vs ns b = none := fun {b o} e h1 h2 => by
    cases q : topH K cs a vs ns b with
    | none => rfl
    | some u =>
      rcases trk b u q with ⟨_, _, t⟩ | ⟨eb, _⟩
      · rw [e] at t
        cases t
        exact absurd rfl h2
      · rw [eb, ha] at e
        cases e
        exact absurd rfl (h1 _ _)
  have toBase : ∀ {b : Addr} {o : Obj}, s₁.heap.get? b = some o → topH K cs a vs ns b = none → (L2.hidT s₁.heap (topH K cs a vs ns)).get? b = some o := fun e n => L2.hidT_get e n
  have nsB : ∀ {b : Addr} {mm : Str → Option Value}, s₁.heap.Ns b mm → (L2.hidT s₁.heap (topH K cs a vs ns)).Ns b mm := fun {b mm} ⟨o, es, ep, e, d, r⟩ =>
    ⟨o, es, ep, toBase e (noT e (fun xs n z => by rw [d] at z; cases z) fun z => by rw [d] at z; cases z), d, r⟩
  have KB : K.In (L2.hidT s₁.heap (topH K cs a vs ns)) := fun b o e => toBase (KX b o e) (by
    cases q : topH K cs a vs ns b with
    | none => rfl
    | some u =>
      rcases trk b u q with ⟨m, _⟩ | ⟨eb, n, _⟩
      · obtain ⟨c, hc, e2⟩ := List.mem_map.mp m
        rw [← e2, nT c hc] at e
        cases e
      · rw [eb, n] at e
        cases e)
  have hok : HOk P w (topH K cs a vs ns) s₁.heap := fun b u q => by
    rcases trk b u q with ⟨_, rfl, t⟩ | ⟨eb, _, _, rfl⟩
    · exact t
    · rw [eb]
      exact ⟨ha, by rw [List.length_map]; exact hl, vs, _, rv, ha⟩
  have tb : ∀ c ∈ cs, LamX.TabB (L2.hidT s₁.heap (topH K cs a vs ns)) mg c.code c.tab := fun c hc => by
    refine ⟨?_, ?_, fun z => ?_⟩
    · obtain ⟨o, us, file, tf, flags, tg, inF, text, tt, e1, r1, r2, r3, rest⟩ := hC c hc
      refine ⟨o, us, file, tf, flags, tg, inF, text, tt, toBase e1 (noT e1 (fun xs n z => by rw [r2] at z; cases z) fun z => ?_), r1, r2, r3, rest⟩
      rw [r2] at z
      cases z
      exact absurd r3 (by simp)
    · obtain ⟨bm, ob, b1, b2, b3, b4, b5, b6⟩ := hbm
      refine ⟨bm, ob, b1, b2, fun q => ?_, fun q => ?_, toBase b3 (noT b3 (fun xs n z => by rw [b6] at z; cases z) fun z => by rw [b6] at z; cases z), b4, b5, b6⟩
      · obtain ⟨o, es, ep, e, hd, _⟩ := hns
        rw [q, e] at b3
        cases b3
        rw [hd] at b6
        cases b6
      · rw [q, hT c hc] at b3
        cases b3
        cases b6
    · obtain ⟨o, es, ep, e, hd, _⟩ := hns
      rw [z, hT c hc] at e
      cases e
      cases hd
  have e0 : Env0 P w K mg (L2.hidT s₁.heap (topH K cs a vs ns)) callerA [] s₁ (topH K cs a vs ns) :=
    ⟨rfl, ⟨KB, nsB hns, ⟨mb, nsB hb, hbb⟩, let ⟨mc, h1, h2⟩ := hlim; ⟨mc, nsB h1, h2⟩⟩, fun b o e => L2.of_hidT e, Nat.le_of_eq (L2.hidT_size _ _), trivial, fun b hx => absurd (show b ∈ ([] : List Addr) from hx) (by simp), hok, .of_eq hg⟩
  have scr : (∃ o, topH K cs a vs ns a = some (HO.frz o (HO.lst (ns.map V.int)))) ∨ SqL K H0 a (ns.map V.int) := by
    cases hk : K.lookup a with
    | none => exact .inl ⟨_, (if_neg aT).trans (if_pos ⟨rfl, hk⟩)⟩
    | some o =>
      have e := KX a o hk
      rw [ha] at e
      cases e
      exact .inr (.inr ⟨_, vs.toArray, _, hk, rfl, rfl, rfl, by rw [List.size_toArray, lenV]; exact hl, by simpa using rv⟩)
  refine codeAny_mono (F _ _ KB (nsB hns) ⟨e0, tabAt, tb, scr⟩) fun r s' h => ?_
  cases r with
  | error e =>
    obtain ⟨_, _, _, _, _, _, _, _, _, _, _, _, z⟩ := h
    exact z.elim
  | ok fl =>
    cases fl with
    | ret u =>
      obtain ⟨v, H', os, bare, un, hok', r', q⟩ := h
      obtain rfl : v = .bl true := q
      obtain rfl : u = Value.bool true := r'
      have old : ∀ b o, b ∉ cs.map (·.tab) → s₁.heap.get? b = some o → s'.heap.get? b = some o := fun b o nb e => by
        cases q : topH K cs a vs ns b with
        | none => exact un.keep b o e q (fun z => absurd (show b ∈ ([] : List Addr) from z) (by simp)) (by simp)
        | some u =>
          rcases trk b u q with ⟨m, _⟩ | ⟨eb, _, _, rfl⟩
          · exact absurd m nb
          · obtain ⟨e2, _⟩ := hok' b _ (un.frzs b _ _ q)
            rw [eb, ha] at e
            cases e
            exact e2
      have more : ∀ c ∈ cs, ∃ xs : Array Value, s'.heap.get? c.tab = some { cls := .none, data := .fields xs } := fun c hc => by
        obtain ⟨xs, z⟩ := un.tbls c.tab #[] (tabAt c hc)
        exact ⟨_, hok' c.tab _ z⟩
      refine ⟨rfl, ⟨fun b o e => ?_, fun b o e => ?_⟩, os, bare⟩
      · by_cases hm : b ∈ cs.map (·.tab)
        · obtain ⟨c, hc, ec⟩ := List.mem_map.mp hm
          subst ec
          obtain ⟨xs, hx⟩ := more c hc
          rw [hT c hc] at e
          cases e
          exact .inr (.inl ⟨((hC c hc).tab (hT c hc)).isCodeTable, rfl, #[], xs, rfl, by rw [Array.empty_append]; exact hx⟩)
        · exact .inl (old b o hm e)
      · by_cases hm : b ∈ cs.map (·.tab)
        · obtain ⟨c, hc, ec⟩ := List.mem_map.mp hm
          subst ec
          obtain ⟨xs, hx⟩ := more c hc
          exact ⟨_, hx⟩
        · exact ⟨o, old b o hm e⟩
    | _ => exact False.elim h
/-- a def's promise on the script -/
theorem fa_top {P : Program} {w : World} {K : PySem.W.Frag} {mg : Str → Option Value} {cs : List Lt} {a fa : Addr} {ns : List Int} {base : Heap} {s₁ : Shared} {H : Hp} {k : Nat} {F : List PV → Sto → Res PV} {S' : Sto} (t : TopOk P w K mg cs a ns base s₁ H) (hr : Room k callerA)
    (fa_ : FA ⟨P, w, K, mg, base, tabOf cs⟩ k fa F) (e : F [.fl (ns.map .int)] [] = .ok (.bl true) S') :
    codeAny (model P w) callerA (.call (.ref fa) ⟨[.ref a], []⟩) (CR (L2.CX P w) [] P w H s₁ (fun v _ => v = .bl true) fun _ _ _ => False) s₁ := by
  have lits : ∀ l : List Int, RepL (⟨K, mg, tabOf cs, none⟩ : Gm) ⟨[], []⟩ H (l.map PV.int) (l.map V.int) := fun l => by
    induction l with
    | nil => exact RepL.nil
    | cons i r ih => exact RepL.cons (mk_int i) ih
  refine fa_ callerA [] s₁ H [.ref a] [.ref a] [.fl (ns.map .int)] [] ⟨[], []⟩ _ _ hr rfl t.env (.cons rfl .nil) ⟨rfl, List.nodup_nil, fun b hb => absurd hb (by simp), fun n xs q => by simp at q, fun p hp => ?_⟩ (RepL.cons ?_ RepL.nil) ?_
  · obtain ⟨c, hc, rfl⟩ := List.mem_map.mp hp
    exact LamX.TabS.nil (t.tabs c hc)
  · unfold Rep
    exact ⟨a, ns.map V.int, rfl, t.scr, lits ns⟩
  · rw [e]
    exact fun m' H' v s h1 h2 => rep_bl h2
/-- THE END: what a law's head leaves, and the law's def as a function of the script -/
theorem walk_end {l : PySem.W.OpenLaw} {n k : Nat} {q : Program} {loose : List Str} {XP : (Str → Option Value) → Heap → Prop} {YP : World → Heap → Prop} {d : DefRec} {K : Params → PySem.W.Frag}
    (hn : l.most = some n) (hn2 : n ≤ sizeLine) (hdf : d.params.defaults = []) (hr : Room k callerA) (hY : ∀ (w : World) (h : Heap), YP w h → (K w.params).In h)
    (F : ∀ (w : World) (mg : Str → Option Value) (fa : Addr) (h : Heap), YP w h → XP mg h → (K w.params).In h → h.Ns mainGlobals mg → mg d.name = some (.ref fa) →
      ∃ (cs : List Lt) (Ff : List PV → Sto → Res PV), (∀ c ∈ cs, h.get? c.tab = some T0) ∧ (∀ c ∈ cs, (K w.params).lookup c.tab = none) ∧ (∀ c ∈ cs, PySem.W.CodeHd h c.code c.tab) ∧
        (∀ base : Heap, (K w.params).In base → base.Ns mainGlobals mg → (∀ c ∈ cs, LamX.TabB base mg c.code c.tab) → FA ⟨l.prog, w, K w.params, mg, base, tabOf cs⟩ k fa Ff) ∧
        ∀ ns : List Int, ns.length ≤ n → (∀ z ∈ ns, Builtin.Int.intBits z ≤ 1048576) → ∃ S', Ff [.fl (ns.map .int)] [] = .ok (.bl true) S') :
    PySem.W.WalkO q loose XP YP l.row.toRowW d [] (fun f vs => PySem.call f vs) := by
  refine Att.attach_callB hn hdf fun w s₀ s₁ mg mb fa o pm cd doc a vs ns G Y ho hd hcd hmg hobj hints hlen hbits hg => ?_
  obtain ⟨cs, Ff, h1, h2, h3, h4, h5⟩ := F w mg fa _ Y G.X (hY w _ Y) G.T.g hmg
  obtain ⟨S', e⟩ := h5 ns hlen hbits
  exact run_top (hY w _ Y) G.T.g G.T.b G.T.builtins G.T.nolimit hg h1 h2 h3 G.T.bmain hobj hints (Nat.le_trans hlen hn2) fun base H kb nb t => fa_top t hr (h4 base kb nb t.tabB) e
end Mi
end
section
set_option Elab.async false
set_option linter.all false
set_option maxRecDepth 100000
set_option maxHeartbeats 2000000
namespace Mi
open PySem PySem.Spec PyProof.Rows L2

/-! ### what is said of a program -/
/-- built-in names that the module leaves as they are -/
def biNames : List Str := ["len", "isinstance", "abs", "int", "tuple", "list", "str", "bool", "all", "any", "zip", "range", "repr", "max", "min", "enumerate", "sorted", "sum", "ValueError", "dict", "set", "reversed"]
structure Bi (mg : Str → Option Value) : Prop where
  get : ∀ {x : Str}, x ∈ biNames → mg x = none
/-- a def of the module -/
structure DefOk (Z : Wd) (x : Str) (st : Stmt) : Prop where
  ex : ∃ f cdv, Z.mg x = some (.ref f) ∧ PySem.W.keepIn Z.K (.ref f) = true ∧ FunC Z.K x st f cdv
/-- .. whose code object stands at c -/
structure DefOkC (Z : Wd) (x : Str) (st : Stmt) (c : Addr) : Prop where
  ex : ∃ f, Z.mg x = some (.ref f) ∧ PySem.W.keepIn Z.K (.ref f) = true ∧ FunC Z.K x st f (.ref c)
theorem DefOk.fc {Z : Wd} {k : Nat} {x : Str} {st : Stmt} {N ps : List Str} {d : EnP → Sto → SR} (D : DefOk Z x st) (Sc : FnScope N ps (defScope st)) (hb : BindC x st ps)
    (body : ∀ (f : Addr) (cdv : Value) (A : Around) (outer : List Env) (s : Shared) (H : Hp) (E : XK), Ctx (Z.cx N x (defScope st) f cdv A outer s H E) k (fun c d _ H => E c d H) → CSs (Z.cx N x (defScope st) f cdv A outer s H E) Z.T (fun c d _ H => E c d H) (defBody st) d) :
    FC Z (k + 1) x (runF ps.length N.length d) := by
  obtain ⟨f, cdv, h1, h2, h3⟩ := D.ex
  exact ⟨f, h1, h2, fa_of h3 Sc hb fun A outer s H E hr hg => body f cdv A outer s H E (ctx_of hr hg)⟩
theorem DefOkC.fc {Z : Wd} {k : Nat} {x : Str} {st : Stmt} {c : Addr} {N ps : List Str} {d : EnP → Sto → SR} (D : DefOkC Z x st c) (Sc : FnScope N ps (defScope st)) (hb : BindC x st ps)
    (body : ∀ (f : Addr) (A : Around) (outer : List Env) (s : Shared) (H : Hp) (E : XK), Ctx (Z.cx N x (defScope st) f (.ref c) A outer s H E) k (fun c d _ H => E c d H) → CSs (Z.cx N x (defScope st) f (.ref c) A outer s H E) Z.T (fun c d _ H => E c d H) (defBody st) d) :
    FC Z (k + 1) x (runF ps.length N.length d) := by
  obtain ⟨f, h1, h2, h3⟩ := D.ex
  exact ⟨f, h1, h2, fa_of h3 Sc hb fun A outer s H E hr hg => body f A outer s H E (ctx_of hr hg)⟩
def lamF (len : Nat) (d : (Sto → Res PV) → EnP → Sto → SR) : (Sto → Res PV) → Sto → Res PV := fun C S => cleanR (runF 1 len (d C) [.lam] S)
theorem DefOk.fl {Z : Wd} {k : Nat} {x a : Str} {st : Stmt} {N : List Str} {d : (Sto → Res PV) → EnP → Sto → SR} (D : DefOk Z x st) (Sc : FnScope N [a] (defScope st)) (hb : BindC x st [a]) (hN0 : N[0]? = some a) (hv : Vis (defScope st) a)
    (body : ∀ (i : LmI) (C : Sto → Res PV) (f : Addr) (cdv : Value) (A : Around) (outer : List Env) (s : Shared) (H : Hp) (E : XK), Ctx (Z.cx N x (defScope st) f cdv A outer s H E) k (fun c d _ H => E c d H) →
      (∀ (pn : List (Addr × Obj)) (xe : Value → Shared → Prop) (W : WX) (p1 p2 : Pos), Takes ((Z.cx N x (defScope st) f cdv A outer s H E).tr pn xe) W → CE ((Z.cx N x (defScope st) f cdv A outer s H E).tr pn xe) (wT Z.T i) W (.Call (.Name a p1) [] [] p2) (dAct 0 C)) →
      CSs (Z.cx N x (defScope st) f cdv A outer s H E) (wT Z.T i) (fun c d _ H => E c d H) (defBody st) (d C)) (hd1 : (a == ("__debug__" : Str)) = false := by decide) (hd2 : (a == ("__classdict__" : Str)) = false := by decide) : FL Z k x (lamF N.length d) := by
  obtain ⟨f, cdv, h1, h2, h3⟩ := D.ex
  exact ⟨f, st, cdv, N, a, d, h1, h2, h3, Sc, hb, hN0, hv, hd1, hd2, fun _ _ => rfl, fun i C A outer s H E hr hg act => body i C f cdv A outer s H E (ctx_of hr hg) act⟩
section
variable {X : Cx} {T : Tb} {W : WX} {k : Nat}
theorem Ctx.u (C : Ctx X k W) : X.A.units + 100 < cLine := by have := C.room.un; omega
theorem u64 (h : X.A.units + 100 < cLine) : X.A.units + 64 < cLine := by omega
theorem u65 (h : X.A.units + 100 < cLine) : X.A.units + 65 < cLine := by omega
theorem u80 (h : X.A.units + 100 < cLine) : X.A.units + 80 < cLine := by omega
theorem ctx_lam {A : Around} {outer : List Env} {s : Shared} {H : Hp} {E : XK} {scope : Scope} {f c' : Addr} (hr : Room k (A.deeper (LamX.lamEnv X scope s.heap.objs.size f c'))) (hg : A.guards = some []) : Ctx (LamX.lamCx X A outer s H E scope f c') k (fun c d _ H => E c d H) :=
  ⟨hr, hg, rfl, takes_of rfl rfl rfl rfl, passes_of rfl⟩
theorem ce_gi {x : Str} {i : Int} {pos : Pos} (hm : ∃ t, X.mg x = some (.int i t)) (hg : Gl X x) (hd : (x == ("__debug__" : Str)) = false := by decide) : CE X T W (.Name x pos) (dC (.int i)) := by
  obtain ⟨t, hm⟩ := hm
  exact ce_gint hg hm hd
theorem ce_gf {x : Str} {F : List PV → Sto → Res PV} {j : Nat} {pos : Pos} (c : FC (wdOf X T) j x F) (hg : Gl X x) (hd : (x == ("__debug__" : Str)) = false := by decide) : CE X T W (.Name x pos) (dC (.glb x)) := by
  obtain ⟨f, hm, _⟩ := c.ex
  exact ce_gfn hg hm hd
theorem ce_ge {x : Str} {pos : Pos} (c : EC X.K X.mg x) (hg : Gl X x) (hd : (x == ("__debug__" : Str)) = false := by decide) : CE X T W (.Name x pos) (dC (.glb x)) := by
  obtain ⟨f, hm, _⟩ := c.ex
  exact ce_gfn hg hm hd
abbrev sLe (a b : List Nat) : Bool := !decide (b < a)
abbrev sLt (a b : List Nat) : Bool := decide (a < b)
theorem sn_cmpS (f : List Nat → List Nat → Bool) : Snd (gm X T) (fun x y H Q => ∃ i j, x = .str i ∧ y = .str j ∧ Q (.bl (f i.cps.toList j.cps.toList)) H) (fCmpS f) := by
  intro W σ m S H x y v u Q hS rx ry p
  unfold fCmpS at p
  split at p
  · cases rep_str rx
    cases rep_str ry
    exact ⟨_, _, rfl, rfl, p.here hS (mk_bl _)⟩
  · exact p.elim
end
/-! the built-in names, one by one -/
section
variable {mg : Str → Option Value}
theorem Bi.b_len (B : Bi mg) : mg "len" = none := B.get (by decide)
theorem Bi.b_isinstance (B : Bi mg) : mg "isinstance" = none := B.get (by decide)
theorem Bi.b_abs (B : Bi mg) : mg "abs" = none := B.get (by decide)
theorem Bi.b_int (B : Bi mg) : mg "int" = none := B.get (by decide)
theorem Bi.b_tuple (B : Bi mg) : mg "tuple" = none := B.get (by decide)
theorem Bi.b_list (B : Bi mg) : mg "list" = none := B.get (by decide)
theorem Bi.b_str (B : Bi mg) : mg "str" = none := B.get (by decide)
theorem Bi.b_bool (B : Bi mg) : mg "bool" = none := B.get (by decide)
theorem Bi.b_all (B : Bi mg) : mg "all" = none := B.get (by decide)
theorem Bi.b_any (B : Bi mg) : mg "any" = none := B.get (by decide)
theorem Bi.b_zip (B : Bi mg) : mg "zip" = none := B.get (by decide)
theorem Bi.b_range (B : Bi mg) : mg "range" = none := B.get (by decide)
theorem Bi.b_repr (B : Bi mg) : mg "repr" = none := B.get (by decide)
theorem Bi.b_max (B : Bi mg) : mg "max" = none := B.get (by decide)
theorem Bi.b_min (B : Bi mg) : mg "min" = none := B.get (by decide)
theorem Bi.b_enumerate (B : Bi mg) : mg "enumerate" = none := B.get (by decide)
theorem Bi.b_sorted (B : Bi mg) : mg "sorted" = none := B.get (by decide)
theorem Bi.b_sum (B : Bi mg) : mg "sum" = none := B.get (by decide)
theorem Bi.b_ValueError (B : Bi mg) : mg "ValueError" = none := B.get (by decide)
end
/-! ### isinstance(error, C) -/
def isF (fs : List (Str × PV)) (isT : PV → Option Bool) : PV → Option Bool := fun t => isT t
theorem ce_isE {X : Cx} {T : Tb} {W : WX} {a D : Addr} {d : Option Addr} {wsE : List (Str × V)} {oe : Obj} {pn : List (Addr × Obj)} {isT : PV → Option Bool} {e : Expr} {es : List Expr} {dl : EnP → Sto → Res (List PV)} {p pos : Pos} (h : (ExcC X.K D ∧ IsT X.K X.mg D isT) ∨ ∀ t, isT t = none) (hz : Zc (.ref D) d oe) (hf : ∃ vs, oe.data = .fields vs)
    (hm : X.mg "isinstance" = none) (hg : Gl (X.suite a ((a, oe) :: pn)) "isinstance") (ha : CA (X.suite a ((a, oe) :: pn)) (T.err (d.map fun x => (x, wsE))) W (e :: es) dl)
    (he : starEach (e :: es) (X.suite a ((a, oe) :: pn)).env = (false, eval e (X.suite a ((a, oe) :: pn)).env) :: starEach es (X.suite a ((a, oe) :: pn)).env := by rfl) (hpl : (backTo pos (starEach es (X.suite a ((a, oe) :: pn)).env)).any (·.1) = false := by rfl) :
    CE (X.suite a ((a, oe) :: pn)) (T.err (d.map fun x => (x, wsE))) W (.Call (.Name "isinstance" p) (e :: es) [] pos) (dCB (fIsE isT) dl) := by
  rcases h with ⟨hx, ht⟩ | h
  · cases d with
    | none => exact ce_callB (call_isE hx hz hf) (sl_isE ht) hg hm PyProof.Rows.boot_isinstance ha (by decide) (by decide) he hpl
    | some dx => exact ce_callB (call_isEd hx hz hf) (sl_isEd (T := T.err (some (dx, wsE))) rfl ht) hg hm PyProof.Rows.boot_isinstance ha (by decide) (by decide) he hpl
  · refine ce_callB (r := fun _ _ _ => False) (fun _ _ _ _ _ _ _ _ _ z => z.elim) (fun W σ m S H xs vs Q hS r p => ?_) hg hm PyProof.Rows.boot_isinstance ha (by decide) (by decide) he hpl
    unfold fIsE at p
    split at p
    · rw [h] at p
      exact p.elim
    · exact p.elim
/-- {} -/
def dDict0 : EnP → Sto → Res PV := fun _ S => .ok (.nd [] []) S
theorem ce_dict0 {X : Cx} {T : Tb} {W : WX} {pos : Pos} : CE X T W (.Dict [] [] pos) dDict0 :=
  pe_imp pe_dnewK fun σ H Q ⟨ρ, S, m, hE, hS, p⟩ => fun a ha => by
    refine p m _ _ (step_new ha) (hS.new ha) ?_
    show Rep _ _ _ (.nd [] []) _
    unfold Rep
    exact ⟨a, [], rfl, hS.fresh ha, upd_same, rfl, RepL.nil⟩
/-! ### comprehensions, the block's place handed on -/
abbrev InBlkC (X : Cx) (k : Nat) (scope : Scope) (P : Cx → Prop) : Prop := ∀ (s : Shared) (H : Hp) (C : Addr) (cl : List (Str × Addr)) (fp : List Addr), Ctx (X.blk s H scope (compEnvC scope cl C X.env) fp) k W0 → P (X.blk s H scope (compEnvC scope cl C X.env) fp)
section
variable {X : Cx} {T : Tb} {W : WX} {k : Nat} {elt tg iter : Expr} {ifs : List Expr} {scope : Scope} {own : List (Str × Nat)} {pos spos : Pos} {g : TG} {di : EnP → Sto → Res (List PV)} {f : PV → EnP → Option EnP} {dt : EnP → Sto → Res Bool} {de : EnP → Sto → Res PV}
theorem ce_lcC (mt : Bool) (hb : mt = true → Bare (gm X T)) (C : Ctx X k W) (hN : X.N.Nodup) (hi : CI X T W tg iter di) (ok : BlkOk X.N X.env.scope scope own) (hg : InBlkC X k scope fun Y => PG Y tg g) (hf : TgC (gm X T) (own.map (·.2)) g f)
    (ht : InBlkC X k scope fun Y => PTs Y ifs (tb (gm X T) W0 dt)) (he : InBlkC X k scope fun Y => Mi.CE Y T W0 elt de) (hs : ∀ x, foldedSetIterable iter X.env x = pure x := by intro _; rfl) :
    Mi.CE X T W (.ListComp elt [⟨tg, iter, ifs, 0⟩] scope pos) (dLc mt di f dt de (own.map (·.2))) :=
  ce_lc mt hb C.calm hN hi ok (fun s H A cl fp => hg s H A cl fp C.blk) hf (fun s H A cl fp => ht s H A cl fp C.blk) (fun s H A cl fp => he s H A cl fp C.blk) hs
theorem cs_lcC (mt : Bool) (hb : mt = true → Bare (gm X T)) {i : Nat} {y : Str} {py : Pos} (C : Ctx X k W) (hN : X.N.Nodup) (hy : X.N[i]? = some y) (hyl : X.env.scope.names.lookup y = some .local)
    (hsw : swapsWith (.ListComp elt [⟨tg, iter, ifs, 0⟩] scope pos) (some (.Name y py)) spos.line X.env = pure true) (hi : CI X T W tg iter di) (ok : BlkOk X.N X.env.scope scope own) (hg : InBlkC X k scope fun Y => PG Y tg g) (hf : TgC (gm X T) (own.map (·.2)) g f)
    (ht : InBlkC X k scope fun Y => PTs Y ifs (tb (gm X T) W0 dt)) (he : InBlkC X k scope fun Y => Mi.CE Y T W0 elt de) (hs : ∀ x, foldedSetIterable iter X.env x = pure x := by intro _; rfl) :
    CS X T W (.Assign [.Name y py] (.ListComp elt [⟨tg, iter, ifs, 0⟩] scope pos) spos) (dSet i (dLc mt di f dt de (own.map (·.2)))) :=
  cs_lc mt hb C.calm hN hy hyl hsw hi ok (fun s H A cl fp => hg s H A cl fp C.blk) hf (fun s H A cl fp => ht s H A cl fp C.blk) (fun s H A cl fp => he s H A cl fp C.blk) hs
end
theorem FC.mono {Z : Wd} {j k : Nat} {x : Str} {F : List PV → Sto → Res PV} (h : FC Z j x F) (hjk : j ≤ k) : FC Z k x F := by
  obtain ⟨f, h1, h2, h3⟩ := h.ex
  exact ⟨f, h1, h2, h3.mono hjk⟩
end Mi
end
section
set_option Elab.async false
set_option linter.all false
set_option maxRecDepth 100000
set_option maxHeartbeats 2000000
namespace Mi
open PySem PySem.Spec PyProof.Rows L2

/-! ### errors, by tables -/
def catN (names : List Str) (c : Str) : Option Bool := if c ∈ names then some true else none
def isTab (P : List (Str × Str × Bool)) (names : List Str) (c : Str) : PV → Option Bool
  | .glb x => (P.find? fun p => p.1 == c && p.2.1 == x).map fun p => p.2.2
  | .ty n => if n = "ValueError" ∧ c ∈ names then some true else none
  | _ => none
section
variable {K : PySem.W.Frag} {mg : Str → Option Value} {P : List (Str × Str × Bool)} {names : List Str}
/-- the classes of errors, with their addresses -/
structure ErrA (K : PySem.W.Frag) (mg : Str → Option Value) (l : List (Str × Addr)) : Prop where
  at_ : ∀ p ∈ l, mg p.1 = some (.ref p.2)
theorem cat_mk {l : List (Str × Addr)} {CR : Addr} (hl : names = l.map (·.1)) (A : ErrA K mg l) (h : ∀ p ∈ l, PySem.W.exmOne K (.ref p.2) (.ref CR) = some true) : ∀ c b, catN names c = some b → ∀ C, mg c = some (.ref C) → PySem.W.exmOne K (.ref C) (.ref CR) = some b := fun c b e C hc => by
  unfold catN at e
  split at e
  · rename_i hm
    cases e
    rw [hl] at hm
    obtain ⟨p, hp, rfl⟩ := List.mem_map.mp hm
    have q := A.at_ p hp
    rw [hc] at q
    cases q
    exact h p hp
  · cases e
theorem isE_mk {l : List (Str × Addr)} (hl : names = l.map (·.1)) (A : ErrA K mg l) (hP1 : ∀ p ∈ P, p.1 ∈ names) (hx : ∀ p ∈ l, ExcC K p.2)
    (hk : ∀ p ∈ P, ∀ C D, (p.1, C) ∈ l → (p.2.1, D) ∈ l → PySem.W.kitOne K (.ref C) (.ref D) = some p.2.2) (hP2 : ∀ p ∈ P, p.2.1 ∈ names) (hv : ∀ p ∈ l, PySem.W.kitOne K (.ref p.2) (.type "ValueError") = some true) :
    ∀ c C fs (d : Option Addr), mg c = some (.ref C) → (fs = [] → d = none) → (ExcC K C ∧ IsT K mg C (isF fs (isTab P names c))) ∨ ∀ t, isF fs (isTab P names c) t = none := by
  intro c C fs d hc hd
  have look : ∀ n, n ∈ names → ∀ A', mg n = some (.ref A') → (n, A') ∈ l := fun n hn A' hA => by
    rw [hl] at hn
    obtain ⟨p, hp, rfl⟩ := List.mem_map.mp hn
    have q := A.at_ p hp
    rw [hA] at q
    cases q
    exact hp
  by_cases hm : c ∈ names
  · refine .inl ⟨hx (c, C) (look c hm C hc), ⟨fun x b e D hD => ?_, fun n b e => ?_, fun t h1 h2 => ?_⟩⟩
    · have e : (P.find? fun p => p.1 == c && p.2.1 == x).map (fun p => p.2.2) = some b := e
      cases ef : P.find? fun p => p.1 == c && p.2.1 == x with
      | none => rw [ef] at e; cases e
      | some p =>
        rw [ef] at e
        cases e
        have hp := List.mem_of_find?_eq_some ef
        have h0 := List.find?_some ef
        simp only [Bool.and_eq_true, beq_iff_eq] at h0
        obtain ⟨h1, h2⟩ := h0
        subst h1 h2
        exact hk p hp C D (look _ hm C hc) (look _ (hP2 p hp) D hD)
    · have e : (if n = "ValueError" ∧ c ∈ names then some true else none) = some b := e
      split at e
      · rename_i h
        cases e
        rw [h.1]
        exact hv (c, C) (look c hm C hc)
      · cases e
    · cases t with
      | glb x => exact absurd rfl (h1 x)
      | ty n => exact absurd rfl (h2 n)
      | _ => rfl
  · refine .inr fun t => ?_
    cases t with
    | glb x =>
      show (P.find? fun p => p.1 == c && p.2.1 == x).map (fun p => p.2.2) = none
      have : (P.find? fun p => p.1 == c && p.2.1 == x) = none := List.find?_eq_none.mpr fun p hp q => by
        simp only [Bool.and_eq_true, beq_iff_eq] at q
        exact hm (q.1 ▸ hP1 p hp)
      rw [this]
      rfl
    | ty n =>
      show (if n = "ValueError" ∧ c ∈ names then some true else none) = none
      exact if_neg fun h => hm h.2
    | _ => rfl
end
/-! ### what the head's written part tells -/
section
variable {K : PySem.W.Frag} {mg : Str → Option Value} {h : Heap}
theorem bi_mk (X : K.In h) (G : h.Ns mainGlobals mg) (e : (biNames.all fun x => match PySem.W.nsIn K mainGlobals x with | some none => true | _ => false) = true) : Bi mg := ⟨fun {x} hx => by
  have q := List.all_eq_true.mp e x hx
  cases z : PySem.W.nsIn K mainGlobals x with
  | none => rw [z] at q; cases q
  | some v =>
    cases v with
    | none => exact PySem.W.mg_none_of X G z
    | some v => rw [z] at q; cases q⟩
theorem int_mk {x : Str} {i : Int} {t : Tok} (X : K.In h) (G : h.Ns mainGlobals mg) (e : PySem.W.nsIn K mainGlobals x = some (some (.int i t))) : ∃ t, mg x = some (.int i t) := ⟨t, PySem.W.mg_of X G e⟩
theorem loose_mk {p : Program} {x : Str} {i : Int} {lv : List (Str × PySem.W.WData)} (XX : PySem.W.XL p lv mg h) (hx : (x, PySem.W.WData.int i) ∈ lv) : ∃ t, mg x = some (.int i t) := by
  obtain ⟨v, e, r⟩ := XX.2.val _ hx
  cases r with
  | int => exact ⟨_, e⟩
theorem def_mk {P : Program} {w : World} {base : Heap} {T : Tb} {x : Str} {st : Stmt} {f : Addr} {oc : Value} {od an : Option Addr} {osl : Array (Option Value)} {kV doc pm cdv ct : Value} (X : K.In h) (G : h.Ns mainGlobals mg)
    (a : PySem.W.nsIn K mainGlobals x = some (some (.ref f))) (l : K.lookup f = some ⟨oc, od, .func (PySem.W.fnOf x x (defArgs st) (defBody st) (defScope st) .none kV doc pm an cdv ct), osl⟩) (c : PySem.W.codeIn K cdv x = true) (k : PySem.W.keepIn K (.ref f) = true) :
    DefOk ⟨P, w, K, mg, base, T⟩ x st := ⟨f, cdv, PySem.W.mg_of X G a, k, ⟨⟨oc, od, kV, doc, pm, an, ct, osl, l⟩, c⟩⟩
theorem defC_mk {P : Program} {w : World} {base : Heap} {T : Tb} {x : Str} {st : Stmt} {f cA : Addr} {oc : Value} {od an : Option Addr} {osl : Array (Option Value)} {kV doc pm ct : Value} (X : K.In h) (G : h.Ns mainGlobals mg)
    (a : PySem.W.nsIn K mainGlobals x = some (some (.ref f))) (l : K.lookup f = some ⟨oc, od, .func (PySem.W.fnOf x x (defArgs st) (defBody st) (defScope st) .none kV doc pm an (.ref cA) ct), osl⟩) (c : PySem.W.codeIn K (.ref cA) x = true) (k : PySem.W.keepIn K (.ref f) = true) :
    DefOkC ⟨P, w, K, mg, base, T⟩ x st cA := ⟨f, PySem.W.mg_of X G a, k, ⟨⟨oc, od, kV, doc, pm, an, ct, osl, l⟩, c⟩⟩
theorem ec_mk {x : Str} {C : Addr} (X : K.In h) (G : h.Ns mainGlobals mg) (a : PySem.W.nsIn K mainGlobals x = some (some (.ref C))) (k : PySem.W.keepIn K (.ref C) = true) (q : PySem.W.excIn K C veMro "ValueError.__new__" = true)
    (s : PySem.W.subIn K (.ref C) (.type "BaseException") = some true) (t : PySem.W.typeIn K (.ref C) = some (.type "type")) (e : ExcC K C) : EC K mg x := ⟨C, PySem.W.mg_of X G a, k, q, s, t, e⟩
end
/-! ### all of the errors at once -/
def excB (K : PySem.W.Frag) (C : Addr) : Bool :=
  decide (PySem.W.findIn K (.ref C) "__getattribute__" = some (some (.builtin "BaseException.__getattribute__"))) && decide (PySem.W.findIn K (.ref C) "__getattr__" = some none) && decide (PySem.W.subIn K (.ref C) (.type "BaseException") = some true) && PySem.W.hasDictIn K C &&
    decide (PySem.W.findIn K (.ref C) "__class__" = some (some (.builtin "object.__class__"))) && decide (PySem.W.specialIn K (.builtin "object.__class__") "__get__" = some (some (.builtin "getset_descriptor.__get__"))) && decide (PySem.W.takesIn K (.builtin "object.__class__") = some true) && decide (PySem.W.mroIn K C (.type "object") = some true)
theorem excB_mk {K : PySem.W.Frag} {C : Addr} (h : excB K C = true) : ExcC K C := by
  unfold excB at h
  simp only [Bool.and_eq_true, decide_eq_true_eq] at h
  obtain ⟨⟨⟨⟨⟨⟨⟨h1, h2⟩, h3⟩, h4⟩, h5⟩, h6⟩, h7⟩, h8⟩ := h
  exact ⟨h1, h2, h3, h4, h5, h6, h7, h8⟩
def errB (K : PySem.W.Frag) (l : List (Str × Addr)) (P : List (Str × Str × Bool)) (CR : Addr) (F : List Str) : Bool :=
  (l.all fun p => decide (PySem.W.nsIn K mainGlobals p.1 = some (some (.ref p.2))) && PySem.W.keepIn K (.ref p.2) && (decide (p.1 ∈ F) || PySem.W.excIn K p.2 veMro "ValueError.__new__") && decide (PySem.W.typeIn K (.ref p.2) = some (.type "type")) && excB K p.2 &&
      decide (PySem.W.exmOne K (.ref p.2) (.ref CR) = some true) && decide (PySem.W.kitOne K (.ref p.2) (.type "ValueError") = some true)) &&
    P.all fun p => l.all fun c => l.all fun d => !(c.1 == p.1 && d.1 == p.2.1) || decide (PySem.W.kitOne K (.ref c.2) (.ref d.2) = some p.2.2)
structure ErrAll (K : PySem.W.Frag) (mg : Str → Option Value) (l : List (Str × Addr)) (P : List (Str × Str × Bool)) (CR : Addr) (F : List Str) : Prop where
  ec : ∀ p ∈ l, p.1 ∉ F → EC K mg p.1
  at_ : ErrA K mg l
  cat : ∀ c b, catN (l.map (·.1)) c = some b → ∀ C, mg c = some (.ref C) → PySem.W.exmOne K (.ref C) (.ref CR) = some b
  isE : ∀ c C fs (d : Option Addr), mg c = some (.ref C) → (fs = [] → d = none) → (ExcC K C ∧ IsT K mg C (isF fs (isTab P (l.map (·.1)) c))) ∨ ∀ t, isF fs (isTab P (l.map (·.1)) c) t = none
theorem errs_mk {K : PySem.W.Frag} {mg : Str → Option Value} {h : Heap} {l : List (Str × Addr)} {P : List (Str × Str × Bool)} {CR : Addr} (F : List Str) (X : K.In h) (G : h.Ns mainGlobals mg) (e : errB K l P CR F = true) (hP : (P.all fun p => decide (p.1 ∈ l.map (·.1)) && decide (p.2.1 ∈ l.map (·.1))) = true) : ErrAll K mg l P CR F := by
  unfold errB at e
  simp only [Bool.and_eq_true, Bool.or_eq_true, List.all_eq_true, decide_eq_true_eq] at e hP
  obtain ⟨e1, e2⟩ := e
  have hA : ErrA K mg l := ⟨fun p hp => PySem.W.mg_of X G (e1 p hp).1.1.1.1.1.1⟩
  refine ⟨fun p hp hF => ?_, hA, cat_mk rfl hA fun p hp => (e1 p hp).1.2, isE_mk rfl hA (fun p hp => (hP p hp).1) (fun p hp => excB_mk (e1 p hp).1.1.2) (fun p hp C D hc hd => ?_) (fun p hp => (hP p hp).2) fun p hp => (e1 p hp).2⟩
  · obtain ⟨⟨⟨⟨⟨⟨h1, h2⟩, h3⟩, h4⟩, h5⟩, h6⟩, h7⟩ := e1 p hp
    exact ec_mk X G h1 h2 (h3.resolve_left hF) (excB_mk h5).hs h4 (excB_mk h5)
  · have q := e2 p hp (p.1, C) hc (p.2.1, D) hd
    simpa using q
end Mi
end
section
set_option Elab.async false
set_option linter.all false
set_option maxRecDepth 100000
set_option maxHeartbeats 2000000
namespace Mi
open PySem PySem.Spec PyProof.Rows L2

/-! ### comprehensions of two clauses -/
def lcP2 (f : PV → EnP → Option EnP) (dt : EnP → Sto → Res Bool) (di1 : EnP → Sto → Res (List PV)) (f1 : PV → EnP → Option EnP) (dt1 : EnP → Sto → Res Bool) (de : EnP → Sto → Res PV) (vs1 : List Nat) (ρ : EnP) : List PV → List PV → Sto → Res (List PV)
  | [], acc, S => .ok acc S
  | x :: xs, acc, S => match f x ρ with
    | none => .bad
    | some ρ1 => (match dt ρ1 S with
      | .ok true S1 => (match di1 ρ1 S1 with
        | .ok items1 S2 => (lcP f1 dt1 de (wipeP ρ1 vs1) items1 acc S2).bind fun acc' S3 => lcP2 f dt di1 f1 dt1 de vs1 ρ xs acc' S3
        | _ => .bad)
      | .ok false S1 => lcP2 f dt di1 f1 dt1 de vs1 ρ xs acc S1
      | _ => .bad)
def dLc2 (mt : Bool) (di : EnP → Sto → Res (List PV)) (f : PV → EnP → Option EnP) (dt : EnP → Sto → Res Bool) (di1 : EnP → Sto → Res (List PV)) (f1 : PV → EnP → Option EnP) (dt1 : EnP → Sto → Res Bool) (de : EnP → Sto → Res PV) (vs vs1 : List Nat) : EnP → Sto → Res PV := fun ρ S =>
  (di ρ S).bind fun items S1 => (lcP2 f dt di1 f1 dt1 de vs1 (wipeP ρ vs) items [] S1).bind fun acc S2 => mkLst mt acc S2
theorem lc2_sound {X : Cx} {T : Tb} {W : WX} {wi wi1 : TI} {g g1 : TG} {tt tt1 : TT} {te : TE} {vs vs1 : List Nat} {di di1 : EnP → Sto → Res (List PV)} {f f1 : PV → EnP → Option EnP} {dt dt1 : EnP → Sto → Res Bool} {de : EnP → Sto → Res PV} (mt : Bool) (hb : mt = true → Bare (gm X T))
    (hi : ∀ σ H R, tr (gm X T) W (fun m' H' items J => ItOk (gm X T) J items m' H') di σ H R → wi σ H R) (hg : TgC (gm X T) vs g f)
    (ht : ∀ σ H Q, tb (gm X T) W0 dt σ H Q → tt σ H Q) (hi1 : ∀ σ H R, tr (gm X T) W0 (fun m' H' items J => ItOk (gm X T) J items m' H') di1 σ H R → wi1 σ H R) (hg1 : TgC (gm X T) vs1 g1 f1)
    (ht1 : ∀ σ H Q, tb (gm X T) W0 dt1 σ H Q → tt1 σ H Q) (he : ∀ σ H Q, tv (gm X T) W0 de σ H Q → te σ H Q) {σ : L2.St} {H : Hp} {Q : VK} (h : tv (gm X T) W (dLc2 mt di f dt di1 f1 dt1 de vs vs1) σ H Q) : tLc2 wi g tt wi1 g1 tt1 te vs vs1 σ H Q := by
  obtain ⟨ρ, S, m, hE, hS, p⟩ := h
  refine hi _ _ _ (tr_bind (f := fun items ρ S1 => (lcP2 f dt di1 f1 dt1 de vs1 (wipeP ρ vs) items [] S1).bind fun acc S2 => mkLst mt acc S2) hE hS p fun items S1 m1 H1 J s1 hE1 hS1 hJ p1 D hD => ?_)
  have D1 : D ∉ m1.ex := (hS1.fresh hD).2
  refine ⟨fun i n H => ∃ S m acc avs, Step m1 H1 m H ∧ D ∈ m.ex ∧ H D = some (HO.lst avs) ∧ RepL (gm X T) m H acc avs ∧ RelS (gm X T) m S H ∧ RelE (gm X T) m H (wipeP ρ vs) (wipe σ vs) ∧ (n = items.length - i ∧ i ≤ items.length) ∧ PostV (gm X T) W σ m1 H1 Q ((lcP2 f dt di1 f1 dt1 de vs1 (wipeP ρ vs) (items.drop i) acc S).bind fun acc S2 => mkLst mt acc S2),
    ⟨_, S1, m1.open_ D, [], [], step_open hD, List.mem_cons_self, upd_same, RepL.nil, hS1.open_ hD, (hE1.wipe vs).step (step_open hD), ⟨rfl, Nat.zero_le _⟩, p1⟩, ?_⟩
  rintro i n H2 ⟨S2, m2, acc, avs, s2, hm2, hD2, ra, hS2, hE2, ⟨rfl, hle⟩, p2⟩
  by_cases hlt : i < items.length
  · right
    have ei : items[i]? = some items[i] := List.getElem?_eq_getElem hlt
    obtain ⟨hgo, hy⟩ := hJ.go m2 H2 S2 i items[i] s2.emb hS2 ei
    refine ⟨hgo, fun H => ∃ S m acc avs, Step m1 H1 m H ∧ D ∈ m.ex ∧ H D = some (HO.lst avs) ∧ RepL (gm X T) m H acc avs ∧ RelS (gm X T) m S H ∧ RelE (gm X T) m H (wipeP ρ vs) (wipe σ vs) ∧ PostV (gm X T) W σ m1 H1 Q ((lcP2 f dt di1 f1 dt1 de vs1 (wipeP ρ vs) (items.drop (i + 1)) acc S).bind fun acc S2 => mkLst mt acc S2),
      fun H' ⟨S', m', acc', avs', a, b, c, d, e, f1, k⟩ => ⟨items.length - (i + 1), by omega, S', m', acc', avs', a, b, c, d, e, f1, ⟨rfl, hlt⟩, k⟩, fun v H3 y => ?_⟩
    obtain ⟨s3, hS3, hr3⟩ := hy v H3 y
    rw [List.drop_eq_getElem_cons hlt] at p2
    unfold lcP2 at p2
    have D2 : D ∉ m2.ix := (hS2.exs D hm2).1
    have lstk : ∀ {m' H'}, Step m2 H2 m' H' → D ∈ m'.ex ∧ H' D = some (HO.lst avs) := fun s => ⟨s.exo D hm2, s.keep D _ D2 hD2 nt_lst⟩
    have hE3 := hE2.step s3
    cases ef : f items[i] (wipeP ρ vs) with
    | none => rw [ef] at p2; exact p2.elim
    | some ρ1 =>
      simp only [ef] at p2
      refine hg m2 H3 items[i] v (wipeP ρ vs) ρ1 (wipe σ vs) _ hr3 hE3 ef fun σ' w hE' => ⟨by rw [w, wipe_wipe], ?_⟩
      refine ht _ _ _ ⟨ρ1, S2, m2, hE', hS3, ?_⟩
      cases et : dt ρ1 S2 with
      | bad => simp only [et] at p2; exact p2.elim
      | exc c fs S3 => simp only [et] at p2; exact p2.elim
      | ok b S3 =>
        simp only [et] at p2
        intro m4 H4 b' s4 hS4 eb
        cases eb
        have s24 := s3.trans s4
        cases b with
        | false =>
          rw [if_neg Bool.false_ne_true]
          exact ⟨S3, m4, acc, avs, s2.trans s24, (lstk s24).1, (lstk s24).2, RepL.step s24 _ _ ra, hS4, hE2.step s24, p2⟩
        | true =>
          rw [if_pos rfl]
          refine hi1 _ _ _ ⟨ρ1, S3, m4, hE'.step s4, hS4, ?_⟩
          cases e1 : di1 ρ1 S3 with
          | bad => simp only [e1] at p2; exact p2.elim
          | exc c fs S5 => simp only [e1] at p2; exact p2.elim
          | ok items1 S5 =>
            simp only [e1] at p2
            intro m5 H5 J1 s5 hS5 hJ1
            have s25 := s24.trans s5
            have k5 := lstk s25
            have hE5 : RelE (gm X T) m5 H5 (wipeP ρ1 vs1) (wipe σ' vs1) := ((hE'.step s4).step s5).wipe vs1
            refine ⟨fun j k H => ∃ S m acc avs, Emb m5 H5 m H ∧ D ∈ m.ex ∧ H D = some (HO.lst avs) ∧ Step m1 H1 m H ∧ RepL (gm X T) m H acc avs ∧ RelS (gm X T) m S H ∧ RelE (gm X T) m H (wipeP ρ1 vs1) (wipe σ' vs1) ∧ RelE (gm X T) m H (wipeP ρ vs) (wipe σ vs) ∧ (k = items1.length - j ∧ j ≤ items1.length) ∧
                PostV (gm X T) W σ m1 H1 Q (((lcP f1 dt1 de (wipeP ρ1 vs1) (items1.drop j) acc S).bind fun acc' S3 => lcP2 f dt di1 f1 dt1 de vs1 (wipeP ρ vs) (items.drop (i + 1)) acc' S3).bind fun acc S2 => mkLst mt acc S2),
              ⟨_, S5, m5, acc, avs, (Step.refl _ _).emb, k5.1, k5.2, s2.trans s25, RepL.step s25 _ _ ra, hS5, hE5, hE2.step s25, ⟨rfl, Nat.zero_le _⟩, p2⟩, ?_⟩
            rintro j k H6 ⟨S6, m6, acc6, avs6, s6, hm6, hD6, s16, ra6, hS6, hE6, hE6', ⟨rfl, hle6⟩, p6⟩
            by_cases hlt6 : j < items1.length
            · right
              have ej : items1[j]? = some items1[j] := List.getElem?_eq_getElem hlt6
              obtain ⟨hgo1, hy1⟩ := hJ1.go m6 H6 S6 j items1[j] s6 hS6 ej
              refine ⟨hgo1, fun H => ∃ S m acc avs, Emb m5 H5 m H ∧ D ∈ m.ex ∧ H D = some (HO.lst avs) ∧ Step m1 H1 m H ∧ RepL (gm X T) m H acc avs ∧ RelS (gm X T) m S H ∧ RelE (gm X T) m H (wipeP ρ1 vs1) (wipe σ' vs1) ∧ RelE (gm X T) m H (wipeP ρ vs) (wipe σ vs) ∧
                  PostV (gm X T) W σ m1 H1 Q (((lcP f1 dt1 de (wipeP ρ1 vs1) (items1.drop (j + 1)) acc S).bind fun acc' S3 => lcP2 f dt di1 f1 dt1 de vs1 (wipeP ρ vs) (items.drop (i + 1)) acc' S3).bind fun acc S2 => mkLst mt acc S2),
                fun H' ⟨S', m', acc', avs', a, b, c, d, e, f1', f2, f3, k⟩ => ⟨items1.length - (j + 1), by omega, S', m', acc', avs', a, b, c, d, e, f1', f2, f3, ⟨rfl, hlt6⟩, k⟩, fun v H7 y => ?_⟩
              obtain ⟨s7, hS7, hr7⟩ := hy1 v H7 y
              rw [List.drop_eq_getElem_cons hlt6] at p6
              unfold lcP at p6
              have D6 : D ∉ m6.ix := (hS6.exs D hm6).1
              have lstk6 : ∀ {m' H'}, Step m6 H6 m' H' → D ∈ m'.ex ∧ H' D = some (HO.lst avs6) := fun s => ⟨s.exo D hm6, s.keep D _ D6 hD6 nt_lst⟩
              have hE7 := hE6.step s7
              cases ef1 : f1 items1[j] (wipeP ρ1 vs1) with
              | none => rw [ef1] at p6; exact p6.elim
              | some ρ2 =>
                simp only [ef1] at p6
                refine hg1 m6 H7 items1[j] v (wipeP ρ1 vs1) ρ2 (wipe σ' vs1) _ hr7 hE7 ef1 fun σ2 w2 hE2' => ⟨by rw [w2, wipe_wipe], ?_⟩
                refine ht1 _ _ _ ⟨ρ2, S6, m6, hE2', hS7, ?_⟩
                cases et1 : dt1 ρ2 S6 with
                | bad => simp only [et1] at p6; exact p6.elim
                | exc c fs S3 => simp only [et1] at p6; exact p6.elim
                | ok b S8 =>
                  simp only [et1] at p6
                  intro m8 H8 b' s8 hS8 eb
                  cases eb
                  have s68 := s7.trans s8
                  cases b with
                  | false =>
                    rw [if_neg Bool.false_ne_true]
                    exact ⟨S8, m8, acc6, avs6, s6.trans s68.emb, (lstk6 s68).1, (lstk6 s68).2, s16.trans s68, RepL.step s68 _ _ ra6, hS8, hE6.step s68, hE6'.step s68, p6⟩
                  | true =>
                    rw [if_pos rfl]
                    refine he _ _ _ ⟨ρ2, S8, m8, hE2'.step s8, hS8, ?_⟩
                    cases ee : de ρ2 S8 with
                    | bad => simp only [ee] at p6; exact p6.elim
                    | exc c fs S5 => simp only [ee] at p6; exact p6.elim
                    | ok y9 S9 =>
                      simp only [ee] at p6
                      by_cases hz : acc6.length < lim
                      · rw [if_pos hz] at p6
                        intro m9 H9 w9 s9 hS9 hr9
                        have s69 := s68.trans s9
                        have k9 := lstk6 s69
                        have D5 : H5 D = some (HO.lst avs) := k5.2
                        refine ⟨avs6, k9.2, by rw [sizeLine_eq, ← ra6.length]; exact hz, S9, m9, acc6 ++ [y9], avs6 ++ [w9], ?_, k9.1, upd_same, step_ex (s16.trans s69) hD k9.2, ?_, hS9.ex_ k9.1 k9.2, (hE6.step s69).emb (emb_ex k9.1 k9.2), (hE6'.step s69).emb (emb_ex k9.1 k9.2), p6⟩
                        · exact (s6.trans s69.emb).trans (emb_ex k9.1 k9.2)
                        · exact RepL.emb (emb_ex k9.1 k9.2) _ _ ((RepL.step s69 _ _ ra6).append (RepL.cons hr9 RepL.nil))
                      · rw [if_neg hz] at p6; exact p6.elim
            · left
              refine ⟨hJ1.stop m6 H6 S6 j s6 hS6 (by omega), ?_⟩
              rw [List.drop_eq_nil_of_le (by omega)] at p6
              exact ⟨S6, m6, acc6, avs6, s16, hm6, hD6, ra6, hS6, hE6', p6⟩
  · left
    refine ⟨hJ.stop m2 H2 S2 i s2.emb hS2 (by omega), ?_⟩
    rw [List.drop_eq_nil_of_le (by omega)] at p2
    have p3 : PostV (gm X T) W σ m1 H1 Q (mkLst mt acc S2) := p2
    unfold mkLst at p3
    split at p3
    · cases mt with
      | true =>
        refine p3 ((m2.shut D).push D) H2 (.ref D) (step_shutP s2 hD D1) (hS2.shutP (hb rfl) hm2 hD2 ra) ?_
        show Rep _ _ _ (.ref S2.length) _
        unfold Rep
        refine ⟨D, ?_, rfl⟩
        show (m2.ix ++ [D])[S2.length]? = some D
        rw [List.getElem?_append_right (by rw [hS2.len]; omega), hS2.len]
        simp
      | false =>
        refine p3 (m2.shut D) H2 (.ref D) (step_shut s2 D1) (hS2.shut hm2) ?_
        show Rep _ _ _ (.nl acc) _
        unfold Rep
        exact ⟨D, avs, rfl, ⟨(hS2.exs D hm2).1, fun q => (mem_shut.mp q).2 rfl⟩, hD2, RepL.emb (emb_shut hm2) _ _ ra⟩
    · exact p3.elim
section
variable {X : Cx} {T : Tb} {W : WX} {k : Nat} {elt tg iter tg1 iter1 : Expr} {ifs ifs1 : List Expr} {scope : Scope} {own : List (Str × Nat)} {vs1 : List Nat} {pos spos : Pos} {g g1 : TG} {di di1 : EnP → Sto → Res (List PV)} {f f1 : PV → EnP → Option EnP} {dt dt1 : EnP → Sto → Res Bool} {de : EnP → Sto → Res PV}
theorem ce_lc2C (mt : Bool) (hb : mt = true → Bare (gm X T)) (C : Ctx X k W) (hN : X.N.Nodup) (hi : CI X T W tg iter di) (ok : BlkOk X.N X.env.scope scope own) (hv : ∀ i ∈ vs1, i ∈ own.map (·.2)) (hg : InBlkC X k scope fun Y => PG Y tg g) (hf : TgC (gm X T) (own.map (·.2)) g f)
    (ht : InBlkC X k scope fun Y => PTs Y ifs (tb (gm X T) W0 dt)) (hi1 : InBlkC X k scope fun Y => PI Y tg1 iter1 (tr (gm X T) W0 (fun m' H' items J => ItOk (gm X T) J items m' H') di1)) (hg1 : InBlkC X k scope fun Y => PG Y tg1 g1) (hf1 : TgC (gm X T) vs1 g1 f1) (ht1 : InBlkC X k scope fun Y => PTs Y ifs1 (tb (gm X T) W0 dt1))
    (he : InBlkC X k scope fun Y => Mi.CE Y T W0 elt de) (hs : ∀ x, foldedSetIterable iter X.env x = pure x := by intro _; rfl) (hs1 : ∀ env x, foldedSetIterable iter1 env x = pure x := by intro _ _; rfl) :
    Mi.CE X T W (.ListComp elt [⟨tg, iter, ifs, 0⟩, ⟨tg1, iter1, ifs1, 0⟩] scope pos) (dLc2 mt di f dt di1 f1 dt1 de (own.map (·.2)) vs1) :=
  pe_imp (pe_lc2 C.calm hN hi ok hv (fun s H A cl fp => hg s H A cl fp C.blk) (fun s H A cl fp => ht s H A cl fp C.blk) (fun s H A cl fp => hi1 s H A cl fp C.blk) (fun s H A cl fp => hg1 s H A cl fp C.blk) (fun s H A cl fp => ht1 s H A cl fp C.blk) (te := tv (gm X T) W0 de) (fun s H A cl fp => he s H A cl fp C.blk) hs hs1)
    fun σ H Q h => lc2_sound mt hb (fun _ _ _ q => q) hf (fun _ _ _ q => q) (fun _ _ _ q => q) hf1 (fun _ _ _ q => q) (fun _ _ _ q => q) h
theorem cs_lc2C (mt : Bool) (hb : mt = true → Bare (gm X T)) {i : Nat} {y : Str} {py : Pos} (C : Ctx X k W) (hN : X.N.Nodup) (hy : X.N[i]? = some y) (hyl : X.env.scope.names.lookup y = some .local)
    (hsw : swapsWith (.ListComp elt [⟨tg, iter, ifs, 0⟩, ⟨tg1, iter1, ifs1, 0⟩] scope pos) (some (.Name y py)) spos.line X.env = pure true) (hi : CI X T W tg iter di) (ok : BlkOk X.N X.env.scope scope own) (hv : ∀ i ∈ vs1, i ∈ own.map (·.2)) (hg : InBlkC X k scope fun Y => PG Y tg g) (hf : TgC (gm X T) (own.map (·.2)) g f)
    (ht : InBlkC X k scope fun Y => PTs Y ifs (tb (gm X T) W0 dt)) (hi1 : InBlkC X k scope fun Y => PI Y tg1 iter1 (tr (gm X T) W0 (fun m' H' items J => ItOk (gm X T) J items m' H') di1)) (hg1 : InBlkC X k scope fun Y => PG Y tg1 g1) (hf1 : TgC (gm X T) vs1 g1 f1) (ht1 : InBlkC X k scope fun Y => PTs Y ifs1 (tb (gm X T) W0 dt1))
    (he : InBlkC X k scope fun Y => Mi.CE Y T W0 elt de) (hs : ∀ x, foldedSetIterable iter X.env x = pure x := by intro _; rfl) (hs1 : ∀ env x, foldedSetIterable iter1 env x = pure x := by intro _ _; rfl) :
    CS X T W (.Assign [.Name y py] (.ListComp elt [⟨tg, iter, ifs, 0⟩, ⟨tg1, iter1, ifs1, 0⟩] scope pos) spos) (dSet i (dLc2 mt di f dt di1 f1 dt1 de (own.map (·.2)) vs1)) :=
  ps_imp (ps_setLc2 C.calm hN hy hyl hsw hi ok hv (fun s H A cl fp => hg s H A cl fp C.blk) (fun s H A cl fp => ht s H A cl fp C.blk) (fun s H A cl fp => hi1 s H A cl fp C.blk) (fun s H A cl fp => hg1 s H A cl fp C.blk) (fun s H A cl fp => ht1 s H A cl fp C.blk) (te := tv (gm X T) W0 de) (fun s H A cl fp => he s H A cl fp C.blk) hs hs1) fun D σ H ⟨ρ, S, m, hE, hS, p⟩ => by
    refine lc2_sound (W := W) mt hb (fun _ _ _ q => q) hf (fun _ _ _ q => q) (fun _ _ _ q => q) hf1 (fun _ _ _ q => q) (fun _ _ _ q => q) ?_
    exact ts_bind (d := dLc2 mt di f dt di1 f1 dt1 de (own.map (·.2)) vs1) (k := fun v S1 => .nx (ρ.set i (some v)) S1) hE hS p fun v S1 m1 H1 w s1 hE1 hS1 hr p1 => p1.nx_here hS1 (hE1.set i hr)
/-! ### names of the module that hold texts, tuples of constants -/
theorem ce_gS {x : Str} {i : Str} {pos : Pos} (hm : ∃ t, X.mg x = some (.str i t)) (hg : Gl X x) (hd : (x == ("__debug__" : Str)) = false := by decide) : CE X T W (.Name x pos) (dC (.str i)) := by
  obtain ⟨t, hm⟩ := hm
  exact ce_gstr hg hm hd
mutual
/-- the machine's value v of a written part stands for a constant tree -/
def Cst (K : PySem.W.Frag) : PV → Value → Prop
  | .non, v => v = .none
  | .bl b, v => v = .bool b
  | .int i, v => ∃ t, v = .int i t
  | .str s, v => ∃ t, v = .str s t
  | .tup xs, v => ∃ a o its n, v = .ref a ∧ K.lookup a = some o ∧ o.cls = .type "tuple" ∧ o.data = .seq its n ∧ its.size ≤ sizeLine ∧ CstL K xs its.toList
  | _, _ => False
def CstL (K : PySem.W.Frag) : List PV → List Value → Prop
  | [], vs => vs = []
  | x :: xs, vs => ∃ v ws, vs = v :: ws ∧ Cst K x v ∧ CstL K xs ws
end
mutual
theorem Cst.rep {g : Gm} : ∀ (x : PV) (v : Value), Cst g.K x v → ∃ u, RelV u v ∧ ∀ m H, Rep g m H x u
  | .non, v, h => by
    unfold Cst at h; subst h
    exact ⟨.non, rfl, fun _ _ => mk_non⟩
  | .bl b, v, h => by
    unfold Cst at h; subst h
    exact ⟨.bl b, rfl, fun _ _ => mk_bl b⟩
  | .int i, v, h => by
    unfold Cst at h
    obtain ⟨t, rfl⟩ := h
    exact ⟨.int i, ⟨t, rfl⟩, fun _ _ => mk_int i⟩
  | .str s, v, h => by
    unfold Cst at h
    obtain ⟨t, rfl⟩ := h
    exact ⟨.str s, ⟨t, rfl⟩, fun _ _ => mk_str s⟩
  | .tup xs, v, h => by
    unfold Cst at h
    obtain ⟨a, o, its, n, rfl, e1, e2, e3, e4, h⟩ := h
    obtain ⟨us, h1, h2⟩ := CstL.rep xs its.toList h
    exact ⟨.ref a, rfl, fun m H => by
      unfold Rep
      exact ⟨a, us, rfl, .inr ⟨o, its, n, e1, e2, e3, e4, h1⟩, h2 m H⟩⟩
  | .ct _, _, h => by unfold Cst at h; exact h.elim
  | .nl _, _, h => by unfold Cst at h; exact h.elim
  | .fl _, _, h => by unfold Cst at h; exact h.elim
  | .nd _ _, _, h => by unfold Cst at h; exact h.elim
  | .ref _, _, h => by unfold Cst at h; exact h.elim
  | .ty _, _, h => by unfold Cst at h; exact h.elim
  | .glb _, _, h => by unfold Cst at h; exact h.elim
  | .err, _, h => by unfold Cst at h; exact h.elim
  | .lam, _, h => by unfold Cst at h; exact h.elim
theorem CstL.rep {g : Gm} : ∀ (xs : List PV) (vs : List Value), CstL g.K xs vs → ∃ us, Vals us vs ∧ ∀ m H, RepL g m H xs us
  | [], vs, h => by
    unfold CstL at h; subst h
    exact ⟨[], .nil, fun _ _ => RepL.nil⟩
  | x :: xs, vs, h => by
    unfold CstL at h
    obtain ⟨v, ws, rfl, h1, h2⟩ := h
    obtain ⟨u, r1, r2⟩ := Cst.rep x v h1
    obtain ⟨us, r3, r4⟩ := CstL.rep xs ws h2
    exact ⟨u :: us, .cons r1 r3, fun m H => RepL.cons (r2 m H) (r4 m H)⟩
end
theorem ce_gT {x : Str} {c : PV} {pos : Pos} (hm : ∃ v, X.mg x = some v ∧ Cst X.K c v) (hg : Gl X x) (hd : (x == ("__debug__" : Str)) = false := by decide) : CE X T W (.Name x pos) (dC c) := by
  obtain ⟨v, e, h⟩ := hm
  obtain ⟨u, r1, r2⟩ := Cst.rep (g := gm X T) c v h
  exact ce_c (v := u) (pe_glob hg e r1 hd) fun m H => r2 m H
end
/-- a constant tree, as the written part has it -/
def cstB (K : PySem.W.Frag) : Nat → PV → Value → Bool
  | 0, _, _ => false
  | n + 1, c, v => match c, v with
    | .non, .none => true
    | .bl a, .bool b => a == b
    | .int i, .int j _ => i == j
    | .str s, .str u _ => s == u
    | .tup xs, .ref a => (match K.lookup a with
      | some o => (match o.data with
        | .seq its _ => decide (o.cls = .type "tuple") && decide (its.size ≤ sizeLine) && decide (xs.length = its.toList.length) && (xs.zip its.toList).all fun p => cstB K n p.1 p.2
        | _ => false)
      | none => false)
    | _, _ => false
theorem cst_of {K : PySem.W.Frag} : ∀ (n : Nat) (c : PV) (v : Value), cstB K n c v = true → Cst K c v
  | 0, _, _, h => by cases h
  | n + 1, c, v, h => by
    unfold cstB at h
    split at h
    · unfold Cst; rfl
    · unfold Cst; rw [eq_of_beq h]
    · unfold Cst; exact ⟨_, by rw [eq_of_beq h]⟩
    · unfold Cst; exact ⟨_, by rw [eq_of_beq h]⟩
    · rename_i xs a
      split at h
      · rename_i o e1
        split at h
        · rename_i its k e2
          simp only [Bool.and_eq_true, decide_eq_true_eq] at h
          obtain ⟨⟨⟨h1, h2⟩, h3⟩, h4⟩ := h
          unfold Cst
          refine ⟨a, o, its, k, rfl, e1, h1, e2, h2, ?_⟩
          generalize its.toList = vs at h3 h4
          clear e2 h2 e1 h1
          induction xs generalizing vs with
          | nil =>
            cases vs with
            | nil => unfold CstL; rfl
            | cons => cases h3
          | cons x xs ih =>
            cases vs with
            | nil => cases h3
            | cons u vs =>
              simp only [List.zip_cons_cons, List.all_cons, Bool.and_eq_true] at h4
              unfold CstL
              exact ⟨u, vs, rfl, cst_of n x u h4.1, ih vs (by simpa using h3) h4.2⟩
        · cases h
      · cases h
    · cases h
end Mi
end
section
set_option Elab.async false
set_option linter.all false
set_option maxRecDepth 100000
set_option maxHeartbeats 2000000
namespace Mi
open PySem PySem.Spec PyProof.Rows L2

def fAddI : PV → PV → Sto → Res PV
  | .int i, .int j, S => .ok (.int (i + j)) S
  | _, _, _ => .bad
theorem sn_addI {X : Cx} {T : Tb} : Snd (gm X T) (rI0 fun i j => .int (i + j)) fAddI := by
  intro W σ m S H x y v u Q hS rx ry p
  unfold fAddI at p
  split at p
  · rename_i i j
    exact ⟨i, j, rep_int rx, rep_int ry, p.here hS (mk_int _)⟩
  · exact p.elim
section
variable {K : PySem.W.Frag} {mg : Str → Option Value} {h : Heap}
theorem str_mk {x : Str} {i : Str} {t : Tok} (X : K.In h) (G : h.Ns mainGlobals mg) (e : PySem.W.nsIn K mainGlobals x = some (some (.str i t))) : ∃ t, mg x = some (.str i t) := ⟨t, PySem.W.mg_of X G e⟩
theorem cst_mk {x : Str} {c : PV} {v : Value} (X : K.In h) (G : h.Ns mainGlobals mg) (e : PySem.W.nsIn K mainGlobals x = some (some v)) (q : cstB K 9 c v = true) : ∃ v, mg x = some v ∧ Cst K c v := ⟨v, PySem.W.mg_of X G e, cst_of _ _ _ q⟩
end
end Mi
end
section
set_option Elab.async false
set_option linter.all false
set_option maxRecDepth 100000
set_option maxHeartbeats 2000000
namespace Mi
open PySem PySem.Spec PyProof.Rows L2

/-! ### a lambda with one parameter that has an int for its default, handed to a def that calls it without arguments -/
/-- its names: captured ones, globals, and parameters that the maker has no name like -/
structure LamD (sc scope : Scope) (N : List Str) : Prop where
  kind : scope.kind = .function
  co : scope.isCoroutine = false
  gen : scope.isGenerator = false
  own : ∀ y ∈ scope.names, y.2 ≠ .cell ∧ (y.2 = .local → y.1 ∉ N)
  free : ∀ y ∈ scope.names, y.2 = .free → sc.names.lookup y.1 = some .cell ∨ sc.names.lookup y.1 = some .free
theorem LamD.has {X : Cx} {scope : Scope} (L : LamD X.env.scope scope X.N) (ok : X.Ok) : ∀ y ∈ scope.names, y.2 = .free → ∃ c, X.env.cells.lookup y.1 = some c := fun y hy e => (L.free y hy e).elim (fun k => ok.has _ (.inl k)) (fun k => ok.has _ (.inr k))
section
variable {X : Cx} {T : Tb} {pins : List (Addr × Obj)} {σ : L2.St} {H HZ : Hp} {s s1 : Shared}
theorem start_d {A : Around} {outer : List Env} {E : XK} {scope : Scope} {f c' : Addr} {h₁ : Heap} {tk : Nat} {mm : Str → Option Value} (I : Inv X pins σ H s) (L : LamD X.env.scope scope X.N) (e0 : Env0 X.prog X.w X.K X.mg X.base A outer s1 HZ) (hd : A.handled = none)
    (un : Un (frs X.stack) [] H HZ s.heap s1.heap) (hns : h₁.Ns s1.heap.objs.size mm) (kp : ∀ b o, s1.heap.get? b = some o → h₁.get? b = some o) :
    Inv (LamX.lamCx X A outer s1 HZ E scope f c') [] σ HZ { s1 with heap := h₁, toks := tk } := by
  have hfree := L.has I.ok
  have up : ∀ {y c}, (cloFrom X.env.cells scope.names []).lookup y = some c → X.env.cells.lookup y = some c := fun {y c} e => by
    rcases cloFrom_mem (PySem.mem_of_lookup e) with z | ⟨z1, z2⟩
    · cases z
    · obtain ⟨d, hd⟩ := hfree _ z1 rfl
      have hd : X.env.cells.lookup y = some d := hd
      have z2 : c = d := by rw [z2, hd] <;> rfl
      rw [z2]
      exact hd
  have down : ∀ {y}, scope.names.lookup y = some .free → ∃ c, (cloFrom X.env.cells scope.names []).lookup y = some c := fun {y} e =>
    mem_lookup (cloFrom_has (cells := X.env.cells) (acc := []) (show (y, NameKind.free) ∈ scope.names from PySem.mem_of_lookup e))
  have cellK : ∀ {c : Addr} {v : Option Value}, H c = none → s.heap.IsCell c v → h₁.IsCell c v := fun {c v} n ⟨o, ho, hd⟩ => by
    obtain ⟨sl, q⟩ := un.any ho n (by simp)
    exact ⟨_, kp _ _ q, hd⟩
  have noA : ∀ b : Addr, b ∉ (LamX.lamCx X A outer s1 HZ E scope f c').ex := fun b z => absurd (show b ∈ ([] : List Addr) from z) (by simp)
  refine ⟨⟨e0.mod, L.kind, rfl, rfl, Nat.le_refl _, fun y z c e1 e2 => I.ok.inj y z c (up e1) (up e2), fun y hy => ?_, fun y c z _ => ?_, fun _ => hd, Around.frames_deeper e0.frames, .inr ⟨rfl, rfl⟩, fun b z => absurd z (noA b), e0.bs, e0.bsz, fun b _ _ => noA b,
      fun b z => absurd z (noA b), e0.funs, e0.frf⟩,
    rfl, e0.bare, Un.kept kp, ⟨_, hns, fun i y v e1 e2 e3 => ?_⟩, fun y c e => ?_, e0.hok.fresh (Nat.le_refl _), fun y c e => ?_, fun q hq => absurd (show q ∈ ([] : List (Addr × Obj)) ++ [] from hq) (by simp), e0.hok.kept kp, I.len⟩
  · have hy : scope.names.lookup y = some .cell ∨ scope.names.lookup y = some .free := hy
    rcases hy with hy | hy
    · exact absurd rfl (L.own _ (PySem.mem_of_lookup hy)).1
    · exact down hy
  · have z : false = true := z
    cases z
  · have e3 : Vis scope y := e3
    have inN : y ∈ X.N := List.mem_of_getElem? e1
    rcases e3 with k | k | k
    · exact absurd inN ((L.own _ (PySem.mem_of_lookup k)).2 rfl)
    · exact absurd rfl (L.own _ (PySem.mem_of_lookup k)).1
    · obtain ⟨m, hn, hl⟩ := I.loc
      have fr := L.free _ (PySem.mem_of_lookup k) rfl
      have hvis : Vis X.env.scope y := fr.elim (fun k => .inr (.inl k)) (fun k => .inr (.inr k))
      obtain ⟨w', r, q⟩ := hl i y v e1 e2 hvis
      obtain ⟨c2, h2⟩ := down k
      refine ⟨w', r, .inr ⟨.inr k, c2, h2, ?_⟩⟩
      have c1 := up h2
      rcases q with ⟨k', _⟩ | ⟨_, c3, e', z⟩
      · have k' : X.env.scope.names.lookup y = some .local := k'
        rcases fr with k2 | k2 <;> rw [show X.env.scope.names.lookup y = _ from k2] at k' <;> cases k'
      · rw [c1] at e'
        cases e'
        exact cellK (I.freeC y _ c1) z
  · obtain ⟨w', z⟩ := I.cell y c (up e)
    exact ⟨w', cellK (I.freeC y c (up e)) z⟩
  · obtain ⟨v, o, ho, hd⟩ := I.cell y c (up e)
    exact un.free c o ho (I.freeC y c (up e)) (by simp)
abbrev qlam (X : Cx) : Str := X.env.qual ++ "<lambda>"
abbrev objD (X : Cx) (params : Arguments) (body : Expr) (scope : Scope) (t : Addr) (doc pm : Value) (c' : Addr) (ctv : Value) : Obj := PySem.W.kdv_obj "<lambda>" (qlam X) params (.expr body) scope (cloFrom X.env.cells scope.names []) (.ref t) doc pm c' ctv
/-- what is known of the made one: the function, its defaults -/
structure MadeD (X : Cx) (s : Shared) (H : Hp) (f t c' : Addr) (params : Arguments) (body : Expr) (scope : Scope) (i : Int) (doc pm ctv : Value) : Prop where
  o : s.heap.get? f = some (objD X params body scope t doc pm c' ctv)
  fn : H f = none
  fr : f ∉ frs X.stack
  d : ∃ k, s.heap.get? t = some (PySem.W.kdv_tup [.int i k])
  tn : H t = none
  tr : t ∉ frs X.stack
theorem make_d {Ts : List (Addr × Str)} {c P : Addr} {params : Arguments} {body : Expr} {scope : Scope} {pos dp : Pos} {i : Int} {kk : Nat} {E : Value → Shared → Prop} {Q : Value → Shared → Prop} (I : Inv X pins σ H s) (TB : LamX.TabB X.base X.mg c P) (hcode : X.env.code = .ref c)
    (hm : (P, qlam X) ∈ Ts) (hu : ∀ p ∈ Ts, p.1 = P → p.2 = qlam X) (hT : LamX.Tabs Ts H) (hd0 : params.defaults = [.Constant (.int i) kk dp]) (hk0 : params.kw_defaults = []) (hfree : ∀ y ∈ scope.names, y.2 = .free → ∃ c, X.env.cells.lookup y.1 = some c)
    (h : ∀ (f t c' : Addr) (doc pm ctv : Value) (H1 : Hp) (s' : Shared), Inv X pins σ H1 s' → LamX.ExtN H H1 → LamX.Tabs Ts H1 → MadeD X s' H1 f t c' params body scope i doc pm ctv → H1 c' = some (LamX.CodeO c' (qlam X)) → Q (.ref f) s') :
    wpAny (model X.prog X.w) X.A (eval (.Lambda params body scope pos) X.env) Q E s := by
  refine PySem.W.kdv_lam (by rw [hd0]; rfl) hk0 ?_
  rw [hd0]
  refine PySem.W.kdv_all1 (wpAny_Constant_int (PySem.W.kdv_all0 ?_))
  rw [makeFunction_eq]
  simp only [List.zip_nil_right, List.filterMap_nil, List.isEmpty_nil, if_true, pure_bind, List.isEmpty_cons, Bool.false_eq_true, if_false]
  refine wpAny_bind (wpAny_newTextTuple ?_)
  have nofr : ∀ f, s.heap.objs.size ≤ f → f ∉ frs X.stack := fun f hf z => by
    rcases List.mem_cons.mp (I.stkSub _ z) with e | e
    · have h1 := I.lt
      rw [← e] at h1
      exact Nat.lt_irrefl _ (Nat.lt_of_lt_of_le h1 hf)
    · exact I.nofs hf e
  -- the tuple of the defaults
  generalize es0 : ({ s with heap := s.heap.push { cls := .type "tuple", data := .seq [Value.int i s.toks].toArray }, toks := s.toks + 1 } : Shared) = s0
  have I0 : Inv X pins σ H s0 := by rw [← es0]; exact I.kept fun b o e => Heap.get?_push_of_some _ e
  have hs0 : s0.heap = s.heap.push { cls := .type "tuple", data := .seq [Value.int i s.toks].toArray } := by rw [← es0]
  have sz0 : s.heap.objs.size < s0.heap.objs.size := by rw [hs0, Heap.size_push]; omega
  have tN : H s.heap.objs.size = none := I.hok.fresh (Nat.le_refl _)
  have tG : s0.heap.get? s.heap.objs.size = some (PySem.W.kdv_tup [.int i s.toks]) := by rw [hs0]; exact Heap.get?_push_size _ rfl
  obtain ⟨ps, hP, ht, ha⟩ := hT _ hm
  have bP : s0.heap.BuiltinsAt X.mg P := TB.bm.keeps I0.bk
  have hP' : s0.heap.get? P = some { cls := .none, data := .fields ps } := I0.hok P _ hP
  have tP : s.heap.objs.size ≠ P := fun z => by
    rw [z] at tN
    rw [tN] at hP
    cases hP
  cases hc : codeAmong pos ps.toList with
  | none =>
    refine PySem.W.kdv_makeTail (mg := X.mg) (c := c) (P := P) (ps := ps) (closure_ok hfree) I0.ok.glob (I0.mod.glob.keeps I0.bk) hcode (TB.code.keeps I0.bk) hP' ht hc TB.gP bP fun c' ctv doc h' tk hx hge hlt hrec htb => ?_
    obtain ⟨c2, oc, vs, t, e2, hoc, hd, hv⟩ := hrec
    cases e2
    have hsz : s0.heap.objs.size ≤ h'.objs.size := Nat.le_trans hge (Nat.le_of_lt hlt)
    have nC : H c' = none := I0.hok.fresh hge
    have I1 := LamX.inv_table (t' := tk) (more := #[rawInt pos.line, rawInt pos.col, .ref c']) (h' := h'.push (objD X params body scope s.heap.objs.size doc ((X.mg "__name__").getD .none) c' ctv)) I0 hP
      (fun b o hb e => Heap.get?_push_of_some _ (hx b o hb e)) (Heap.get?_push_of_some _ htb) hge ⟨oc, vs, t, Heap.get?_push_of_some _ hoc, hd, hv⟩
    have hE : LamX.ExtN H (upd (upd H P (.tbl (ps ++ #[rawInt pos.line, rawInt pos.col, .ref c']))) c' (LamX.CodeO c' (qlam X))) := fun b o e n => by
      rw [upd_ne (ne_of_none e nC), upd_ne (fun z => n ps (Option.some.inj (e.symm.trans (by rw [z]; exact hP))))]
      exact e
    have eL : (ps ++ #[rawInt pos.line, rawInt pos.col, .ref c']).toList = ps.toList ++ [rawInt pos.line, rawInt pos.col, .ref c'] := by simp
    refine h h'.objs.size s.heap.objs.size c' doc ((X.mg "__name__").getD .none) ctv _ _ I1 hE (fun p hp => ?_) ⟨Heap.get?_push_size _ rfl, ?_, nofr _ (Nat.le_trans (Nat.le_of_lt sz0) hsz), ⟨s.toks, Heap.get?_push_of_some _ (hx _ _ tP tG)⟩, ?_, nofr _ (Nat.le_refl _)⟩ upd_same
    · by_cases hb : p.1 = P
      · rw [hu p hp hb, hb]
        refine ⟨_, by rw [upd_ne (ne_of_none hP nC), upd_same], by rw [eL]; exact PySem.TriplesOk_snoc _ _ _ _ ht, fun p' cv hcv => ?_⟩
        rw [eL] at hcv
        rcases LamX.among_app _ ht hcv with z | z
        · obtain ⟨c0, e1, e2⟩ := ha p' cv z
          exact ⟨c0, e1, hE _ _ e2 LamX.codeO_ne⟩
        · exact ⟨c', z, upd_same⟩
      · obtain ⟨ps', a1, a2, a3⟩ := hT p hp
        refine ⟨ps', by rw [upd_ne (ne_of_none a1 nC), upd_ne hb]; exact a1, a2, fun p' cv hcv => ?_⟩
        obtain ⟨c0, e1, e2⟩ := a3 p' cv hcv
        exact ⟨c0, e1, hE _ _ e2 LamX.codeO_ne⟩
    · have n1 : h'.objs.size ≠ c' := Nat.ne_of_gt hlt
      have n2 : h'.objs.size ≠ P := Nat.ne_of_gt (Nat.lt_of_lt_of_le (Heap.lt_size hP') hsz)
      rw [upd_ne n1, upd_ne n2]
      exact I0.hok.fresh hsz
    · have n1 : s.heap.objs.size ≠ c' := Nat.ne_of_lt (Nat.lt_of_lt_of_le sz0 hge)
      rw [upd_ne n1, upd_ne tP]
      exact tN
  | some cv =>
    obtain ⟨c', e, hco⟩ := ha pos cv hc
    subst e
    refine PySem.W.kdv_makeTailHit (mg := X.mg) (c := c) (P := P) (ps := ps) (closure_ok hfree) I0.ok.glob (I0.mod.glob.keeps I0.bk) hcode (TB.code.keeps I0.bk) hP' ht hc bP fun ctv doc h' tk hx hsz => ?_
    have I1 : Inv X pins σ H { s0 with heap := h'.push (objD X params body scope s.heap.objs.size doc ((X.mg "__name__").getD .none) c' ctv), toks := tk } := I0.kept fun b o e => Heap.get?_push_of_some _ (hx b o e)
    exact h h'.objs.size s.heap.objs.size c' doc ((X.mg "__name__").getD .none) ctv H _ I1 (LamX.ExtN.refl H) hT ⟨Heap.get?_push_size _ rfl, I0.hok.fresh hsz, nofr _ (Nat.le_trans (Nat.le_of_lt sz0) hsz), ⟨s.toks, Heap.get?_push_of_some _ (hx _ _ tG)⟩, tN, nofr _ (Nat.le_refl _)⟩ hco
/-- x() in the def that got it -/
theorem act_d {Eg : XK} {Ng : List Str} {qg : Str} {sg : Scope} {g f t c' : Addr} {cdg doc pm ctv : Value} {params : Arguments} {body : Expr} {scope : Scope} {k i : Nat} {di : Int} {nm : Str} {a : Str} {pn : List (Addr × Obj)} {xe : Value → Shared → Prop} {W : WX} {p1 p2 : Pos} {ρ : EnP} {db : EnP → Sto → Res PV}
    (I : Inv X pins σ H s) (L : LamD X.env.scope scope X.N) (hX : X.A.handled = none) (hTl : T.lm = none) (hgX : X.A.guards = some [])
    (M : MadeD X s H f t c' params body scope di doc pm ctv) (hnm : scope.names.lookup nm = some .local)
    (hbind : ∃ k, bindArgs (PySem.W.kdv_fn "<lambda>" (qlam X) params (.expr body) scope (cloFrom X.env.cells scope.names []) (.ref t) doc pm (.ref c') ctv) ⟨[], []⟩ = seqItems? (.ref t) >>= k ∧ ∀ tok, k (some [Value.int di tok].toArray) = pure [(nm, .int di tok)])
    (tk : Takes (((wdOf X T).cx Ng qg sg g cdg X.A X.stack s H Eg).tr pn xe) W) (hr : Room (k + 1) (X.A.deeper (envOfC qg sg s.heap.objs.size g cdg)))
    (hbody : ∀ (A : Around) (outer : List Env) (s1 : Shared) (H1 : Hp) (E : XK), Room k (A.deeper (LamX.lamEnv X scope s1.heap.objs.size f c')) → A.guards = some [] → CE (LamX.lamCx X A outer s1 H1 E scope f c') T (fun c d _ H => E c d H) body db)
    (hN : Ng[i]? = some a) (hv : Vis sg a) (hd : (a == ("__debug__" : Str)) = false := by decide) (hcd : (a == ("__classdict__" : Str)) = false := by decide) :
    CE (((wdOf X T).cx Ng qg sg g cdg X.A X.stack s H Eg).tr pn xe) (wT T (lamI (gm X T) f c' (qlam X) ρ σ)) W (.Call (.Name a p1) [] [] p2) (dAct i fun S => db ρ S) := by
  refine ⟨fun pz sz σz Hz Q Iz ⟨ρz, S, m, hE, hS, p⟩ => ?_⟩
  unfold dAct at p
  split at p
  case h_2 => exact p.elim
  rename_i ei
  obtain ⟨w, ew, rw_⟩ := hE.at_ i _ ei
  unfold Rep at rw_
  obtain ⟨j, ej, rfl, hΦ⟩ := rw_
  cases ej
  obtain ⟨hEx, hno, hco⟩ := hΦ
  refine wpAny_Call_Name_kw (thn ((pe_var (pos := p1) (i := i) hN hv hd hcd).run pz sz σz Hz (fun v H1 => v = .ref f ∧ H1 = Hz) Iz ⟨.ref f, ew, rfl, rfl⟩) fun u s1 ⟨v, H1, I1, r1, q1, q2⟩ => ?_)
  rw [q1] at r1
  rw [q2] at I1
  obtain rfl : u = Value.ref f := r1
  have here : s1.heap.get? f = some (objD X params body scope t doc pm c' ctv) := I1.base.keep f _ M.o M.fn M.fr (fun z => nomatch (show f ∈ ([] : List Addr) from z))
  obtain ⟨tok, hd0⟩ := M.d
  have there : s1.heap.get? t = some (PySem.W.kdv_tup [.int di tok]) := I1.base.keep t _ hd0 M.tn M.tr (fun z => nomatch (show t ∈ ([] : List Addr) from z))
  have un : Un (frs X.stack) [] H Hz s.heap s1.heap := I1.base
  obtain ⟨⟨oc, us, tt, hoc, hdc, hvc⟩, _, _⟩ := I1.hok c' _ hco
  have hAd : (X.A.deeper (envOfC qg sg s.heap.objs.size g cdg)).handled = none := hX
  have pb : PostV (gm X T) (fun c d _ H => W c d σz H) σ m Hz Q (db ρ S) := by
    have q := post_bare (W' := fun c d _ H => W c d σz H) (σ' := σ) (fun _ _ _ h => h) p
    rw [← gm_bare hX hTl]
    exact q
  obtain ⟨kk, hb1, hb2⟩ := hbind
  have hbt : BindsTo s1 (PySem.W.kdv_fn "<lambda>" (qlam X) params (.expr body) scope (cloFrom X.env.cells scope.names []) (.ref t) doc pm (.ref c') ctv) ⟨[], []⟩ [(nm, .int di tok)] := BindsTo.of_defaults rfl there rfl hb1 (hb2 tok)
  refine PySem.W.callWith_F0 ⟨_, _, _, _, here⟩ (wpAny_call (codeAny_mono (R := CR (L2.CX X.prog X.w) (envOfC qg sg s.heap.objs.size g cdg :: X.stack) X.prog X.w Hz s1 Q (fun c d H => W c d σz H)) ?_ fun r s' hq => ?_))
  · refine PySem.W.kla_callFunE hr.depth here rfl L.co L.gen rfl ⟨c', oc, us, tt, rfl, hoc, hdc, hvc⟩ (hbt _ _ _ _ ?_)
    refine wpAny_newFunctionEnv (fun y hy => (L.own y hy).1) (fun y hy => by rw [List.mem_singleton.mp hy]; exact hnm) (fun h₁ hns hsb => ⟨I1.nolimit.fresh _ hsb, ?_⟩) L.kind
    show codeAny _ _ (.expr body (LamX.lamEnv X scope s1.heap.objs.size f c')) _ _
    have J := start_d (E := fun c d H => W c d σz H) (f := f) (c' := c') (tk := s1.toks + ([(nm, Value.int di tok)] : List (Str × Value)).length) I L I1.env0 hAd un hns fun b o e => hsb.extBut b o (Nat.ne_of_lt (Heap.lt_size e)) (Heap.get?_push_of_some _ e)
    have hb := hbody _ (envOfC qg sg s.heap.objs.size g cdg :: X.stack) s1 Hz (fun c d H => W c d σz H) (hr.deeper _) hgX
    refine PySem.W.kla_codeExpr (wpAny_mono (hb.run [] _ σ Hz Q J ⟨ρ, S, m, hEx, ?_, pb⟩) (fun v s' hq => ?_) fun e s' hq => hq)
    · exact relS_as (by show Gm.bare _ = Gm.bare _; rfl) hS
    · obtain ⟨w', H', J', rv, q⟩ := hq
      exact ⟨w', H', J'.os, J'.bare, J'.base, J'.hok, rv, q⟩
  · cases r with
    | error e => exact tk e s' (XE.of_call I1 (fun _ _ _ h => h) hq)
    | ok fl =>
      cases fl with
      | ret u => exact I1.after hq
      | _ => exact False.elim hq
/-- x(lambda n=i: body) -/
theorem ce_lamD {W : WX} {x : Str} {G : (Sto → Res PV) → Sto → Res PV} {kF kl j kk : Nat} {di : Int} {nm : Str} {c P : Addr} {params : Arguments} {body : Expr} {scope : Scope} {p lpos pos dp : Pos} {db : EnP → Sto → Res PV} (F : FL (wdOf X T) kF x G) (Cx_ : Ctx X j W) (hk1 : kF ≤ kl + 1) (hk2 : kl + 2 ≤ j) (hTl : T.lm = none)
    (hg : Gl X x) (TB : LamX.TabB X.base X.mg c P) (hcode : X.env.code = .ref c) (hmT : (P, qlam X) ∈ T.tabs) (hu : ∀ p ∈ T.tabs, p.1 = P → p.2 = qlam X) (L : LamD X.env.scope scope X.N) (hd0 : params.defaults = [.Constant (.int di) kk dp]) (hk0 : params.kw_defaults = []) (hnm : scope.names.lookup nm = some .local)
    (hbind : ∀ (q : Str) (cl : List (Str × Addr)) (t : Addr) (doc pm cv ctv : Value), ∃ k, bindArgs (PySem.W.kdv_fn "<lambda>" q params (.expr body) scope cl (.ref t) doc pm cv ctv) ⟨[], []⟩ = seqItems? (.ref t) >>= k ∧ ∀ tok, k (some [Value.int di tok].toArray) = pure [(nm, .int di tok)])
    (hbody : ∀ (A : Around) (outer : List Env) (s1 : Shared) (H1 : Hp) (E : XK) (f c' : Addr), Room kl (A.deeper (LamX.lamEnv X scope s1.heap.objs.size f c')) → A.guards = some [] → CE (LamX.lamCx X A outer s1 H1 E scope f c') T (fun c d _ H => E c d H) body db)
    (hdb : (x == ("__debug__" : Str)) = false := by decide) : CE X T W (.Call (.Name x p) [.Lambda params body scope lpos] [] pos) (fun ρ S => G (fun S => db ρ S) S) := by
  obtain ⟨g, st, cdv, N, a, d, hm, hk, FC_, Sc, hbd, hN0, hva, hd1, hd2, hG, hB⟩ := F.ex
  refine ⟨fun pins s σ H Q I ⟨ρ, S, m, hE, hS, q⟩ => ?_⟩
  refine wpAny_Call_Name_kw (ld_glob I hg hm ?_ hdb)
  refine PySem.W.callWith_K (h₀ := X.base) I.ok.mod.kin hk ?_ (by rfl) (by rfl)
  show wpAny _ _ (spliced ((false, eval (.Lambda params body scope lpos) X.env) :: backTo pos (starEach [] X.env))) _ _ s
  refine Calls.spliced_cons (make_d I TB hcode hmT hu hS.tab hd0 hk0 (L.has I.ok) fun f t c' doc' pm' ctv H1 s' I1 eN T1 M hco => Calls.spliced_nil ⟨I1.kIn, ?_⟩)
  have hS1 := relS_extN hS eN T1
  have st1 : Step m H m H1 := step_extN eN
  have hE1 := hE.step st1
  have nlst : ∀ u, H1 c' = some u → ¬ Tr u := fun u e t => by
    rw [hco] at e
    unfold LamX.CodeO at e
    cases e
    rcases t with ⟨_, q⟩ | ⟨_, q⟩ | ⟨_, _, q⟩ <;> cases q
  have nc : m.no c' := by
    refine ⟨fun z => ?_, fun z => ?_⟩
    · obtain ⟨vs, e, t⟩ := hS1.tracked z
      exact nlst vs e t
    · obtain ⟨_, vs, e, t⟩ := hS1.exs c' z
      exact nlst vs e t
  have hX := Cx_.room.hd
  have hbr : Bare (gm X T) := gm_bare hX hTl
  have q1 : PostV (gm X T) W σ m H1 Q (cleanR (runF 1 N.length (d fun S => db ρ S) [.lam] S)) := by
    have q0 : PostV (gm X T) W σ m H1 Q (G (fun S => db ρ S) S) := PostR.step st1 q
    rw [hG] at q0
    exact q0
  let i : LmI := lamI (gm X T) f c' (qlam X) ρ σ
  let Y : Cx := (wdOf X T).cx N x (defScope st) g cdv X.A X.stack s' H1 (fun c d H => W c d σ H)
  have q2 : PostV (gm Y (wT T i)) (fun c d _ H => W c d σ H) (L2.start N [.ref f]) m H1 Q (endOf (d (fun S => db ρ S) (startP N.length [.lam]) S)) := by
    refine post_wide (X := X) (Y := Y) rfl rfl hbr (fun _ _ _ h => h) (σ := σ) (W := W) ?_
    have e : runF 1 N.length (d fun S => db ρ S) [.lam] S = endOf (d (fun S => db ρ S) (startP N.length [.lam]) S) := rfl
    rw [← e]
    exact q1
  have rx : RepL (gm Y (wT T i)) m H1 [.lam] [.ref f] := RepL.cons (by unfold Rep; exact ⟨i, rfl, rfl, hE1, nc, hco⟩) RepL.nil
  have hS2 : RelS (gm Y (wT T i)) m S H1 := relS_as (by show Gm.bare _ = Gm.bare _; rfl) hS1
  have hr2 : Room (kl + 2) X.A := Cx_.room.mono hk2
  have body1 := hB i (fun S => db ρ S) X.A X.stack s' H1 (fun c d H => W c d σ H) ((hr2.deeper _).mono hk1) Cx_.gd fun pn xe W' p1 p2 tk' => act_d (p1 := p1) (p2 := p2) (ρ := ρ) (db := db) I1 L hX hTl Cx_.gd M hnm (hbind _ _ _ _ _ _ _) tk' (hr2.deeper _) (fun A outer s1 H2 E h1 h2 => hbody A outer s1 H2 E f c' h1 h2) hN0 hva hd1 hd2
  have run := run_body (k := kl + 1) (E := fun c d H => W c d σ H) (Q := Q) FC_ Sc hbd hr2 I1.env0 (show Vals [V.ref f] [Value.ref f] from .cons rfl .nil) rfl body1 ⟨_, S, m, start_rel rx, hS2, endOf_post (fun _ _ _ _ _ h => h) q2⟩
  refine wpAny_call (codeAny_mono run fun r s2 hq => ?_)
  cases r with
  | error e => exact Cx_.tk e s2 (XE.of_call I1 (fun _ _ _ h => h) hq)
  | ok fl =>
    cases fl with
    | ret u => exact I1.after hq
    | _ => exact False.elim hq
end
/-! ### {k: x} -/
def dDisp1 (k : Int) (i : Nat) : EnP → Sto → Res PV := fun ρ S => match ρ[i]? with
  | some (some v) => .ok (.nd [.inl k] [v]) S
  | _ => .bad
theorem upd_two {H : Hp} {a : Addr} {u v : HO} : upd (upd H a u) a v = upd H a v := by
  funext b
  by_cases h : b = a
  · rw [h, upd_same, upd_same]
  · rw [upd_ne h, upd_ne h, upd_ne h]
theorem ce_disp1 {X : Cx} {T : Tb} {W : WX} {k : Int} {i j : Nat} {x : Str} {p1 p2 pos : Pos} (hN : X.N[i]? = some x) (hv : Vis X.env.scope x) (hd : (x == ("__debug__" : Str)) = false := by decide) (hcd : (x == ("__classdict__" : Str)) = false := by decide) :
    CE X T W (.Dict [some (.Constant (.int k) j p1)] [.Name x p2] pos) (dDisp1 k i) :=
  pe_imp (pe_disp (pps_cons pe_int (pe_var hN hv hd hcd) pps_nil) rfl rfl (by simp) (by simp)) fun σ H Q ⟨ρ, S, m, hE, hS, p⟩ => fun a ha => by
    unfold dDisp1 at p
    split at p
    · rename_i v ev
      obtain ⟨w, ew, rw_⟩ := hE.at_ i v ev
      refine ⟨w, ew, upd_same, [(.inl k, w)], rfl, by simp, ?_⟩
      rw [upd_two]
      refine p m _ _ (step_new ha) (hS.new ha) ?_
      show Rep _ _ _ (.nd [.inl k] [v]) _
      unfold Rep
      exact ⟨a, [w], rfl, hS.fresh ha, upd_same, rfl, RepL.cons (Rep.step (step_new ha) _ _ rw_) RepL.nil⟩
    · exact p.elim
def lamDB (sc scope : Scope) (N : List Str) : Bool :=
  decide (scope.kind = .function) && !scope.isCoroutine && !scope.isGenerator && scope.names.all fun y => !decide (y.2 = .cell) && (!decide (y.2 = .local) || !N.contains y.1) && (!decide (y.2 = .free) || decide (sc.names.lookup y.1 = some .cell) || decide (sc.names.lookup y.1 = some .free))
theorem lamD_by {sc scope : Scope} {N : List Str} (h : lamDB sc scope N = true) : LamD sc scope N := by
  unfold lamDB at h
  simp only [Bool.and_eq_true, Bool.or_eq_true, Bool.not_eq_true', decide_eq_true_eq, decide_eq_false_iff_not, List.all_eq_true] at h
  obtain ⟨⟨⟨h1, h2⟩, h3⟩, h4⟩ := h
  refine ⟨h1, h2, h3, fun y hy => ⟨(h4 y hy).1.1, fun e z => ?_⟩, fun y hy e => ?_⟩
  · rcases (h4 y hy).1.2 with q | q
    · exact q e
    · rw [List.contains_eq_mem] at q
      simp [z] at q
  · rcases (h4 y hy).2 with (q | q) | q
    · exact absurd e q
    · exact .inl q
    · exact .inr q
end Mi
end
section
set_option Elab.async false
set_option linter.all false
set_option maxRecDepth 100000
set_option maxHeartbeats 2000000
namespace Mi
open PySem PySem.Spec PyProof.Rows L2
/-! ### l.index(x) -/
def fIndex (x y : PV) (S : Sto) : Res PV := match toDS x S, toD y with
  | some (.list ds), some d => if SeqAt.shaped (.list ds) = true ∧ SeqAt.shaped d = true then (match ds.findIdx? (fun z => PyData.eqv z d) with | some j => .ok (.int (j : Nat)) S | none => .bad) else .bad
  | _, _ => .bad
def index1 (x : PV) (S : Sto) : List PV → Res PV
  | [y] => fIndex x y S
  | _ => .bad
def dIndex (d : EnP → Sto → Res PV) (dl : EnP → Sto → Res (List PV)) : EnP → Sto → Res PV := fun ρ S => (d ρ S).bind fun x S1 => if (lstOf x S1).isSome = true then (dl ρ S1).bind fun ys S2 => index1 x S2 ys else .bad
theorem type_list_index : typeOf (.builtin "list.index") = pure (.type "method_descriptor") := by show builtinType "list.index" = _; first | rfl | kernel_rfl
section
variable {X : Cx} {T : Tb} {W : WX} {o e : Expr} {es : List Expr} {d : EnP → Sto → Res PV} {dl : EnP → Sto → Res (List PV)} {apos cpos : Pos}
theorem ce_index (hu : X.A.units + 65 < cLine) (ho : CE X T W o d) (ha : CA X T W (e :: es) dl)
    (hbase : attributeBase o "index" X.env (eval o X.env) = eval o X.env := by rfl)
    (hfew : ((backTo cpos (starEach (e :: es) X.env)).all (fun x => !x.1) && (backToKw cpos (keywordEach [] X.env)).all (fun x => x.1.isSome)
      && decide ((e :: es).length + ([] : List Keyword).length + (if ([] : List Keyword).isEmpty then 0 else 1) < 30)) = true := by rfl)
    (hline : (apos.endLine == cpos.line) = true := by rfl) (hs : starEach (e :: es) X.env = (false, eval e X.env) :: starEach es X.env := by rfl) (hplain : (backTo cpos (starEach es X.env)).any (·.1) = false := by rfl) :
    CE X T W (.Call (.Attribute o "index" apos) (e :: es) [] cpos) (dIndex d dl) :=
  pe_imp (pe_bm PySem.F.plainAttrs_list PySem.F.slot_list_index type_list_index (mt_indexD hu) ho ha hbase hfew hline hs hplain) fun σ H Q ⟨ρ, S, m, hE, hS, p⟩ =>
    tr_bind (f := fun (x : PV) (ρ : EnP) (S1 : Sto) => if (lstOf x S1).isSome = true then (dl ρ S1).bind fun ys S2 => index1 x S2 ys else .bad) hE hS p fun x S1 m1 H1 w s1 hE1 hS1 hr1 p1 => by
      cases e0 : lstOf x S1 with
      | none => rw [e0] at p1; exact p1.elim
      | some xs0 =>
        rw [e0, if_pos (show (some xs0).isSome = true from rfl)] at p1
        obtain ⟨a, vs0, rfl, f1, _⟩ := lstOf_rep hS1 hr1 e0
        refine ⟨.inl ⟨rfl, vs0, f1⟩, tr_bind (f := fun (ys : List PV) (_ : EnP) (S2 : Sto) => index1 x S2 ys) hE1 hS1 p1 fun ys S2 m2 H2 ws s2 hE2 hS2 hr2 p2 => ?_⟩
        unfold index1 at p2
        split at p2
        · rename_i y
          obtain ⟨u, rfl, ru⟩ := one_rep hr2
          unfold fIndex at p2
          split at p2
          · rename_i ds dd h1 h2
            split at p2
            · rename_i h
              split at p2
              · rename_i j hj
                obtain ⟨hl, hz, hn⟩ := List.findIdx?_eq_some_iff_getElem.mp hj
                refine ⟨a, u, dd, ds, j, ds[j], rfl, rfl, dpS_of hS2 (hr1.step s2) h1, dp_of y u dd ru h2, h.1, h.2, List.getElem?_eq_getElem hl, hz, fun k z' hk hz' => ?_, p2.here hS2 (mk_int _)⟩
                have hk2 : k < ds.length := by omega
                rw [List.getElem?_eq_getElem hk2] at hz'
                cases hz'
                simpa using hn k hk
              · exact p2.elim
            · exact p2.elim
          · exact p2.elim
        · exact p2.elim
end
end Mi
end
section
set_option Elab.async false
set_option linter.all false
set_option maxRecDepth 100000
set_option maxHeartbeats 2000000
namespace Mi
open PySem PySem.Spec PyProof.Rows L2
/-! ### xs[::-1] -/
def fRev (mt : Bool) (x : PV) (S : Sto) : Res PV := match lstOf x S with
  | some xs => mkLst mt xs.reverse S
  | none => .bad
def dRev (mt : Bool) (d : EnP → Sto → Res PV) : EnP → Sto → Res PV := fun ρ S => (d ρ S).bind fun x S1 => fRev mt x S1
theorem RepL.rev {g : Gm} {m : Mm} {H : Hp} : ∀ {xs : List PV} {vs : List V}, RepL g m H xs vs → RepL g m H xs.reverse vs.reverse
  | [], vs, h => by
    unfold RepL at h
    subst h
    exact RepL.nil
  | x :: xs, vs, h => by
    unfold RepL at h
    obtain ⟨v, vs', rfl, h1, h2⟩ := h
    rw [List.reverse_cons, List.reverse_cons]
    exact RepL.append (RepL.rev h2) (RepL.cons h1 RepL.nil)
section
variable {X : Cx} {T : Tb} {W : WX} {pos p1 p2 p3 : Pos} {k : Nat} {a : Expr} {da : EnP → Sto → Res PV}
theorem ce_rev (mt : Bool) (hb : mt = true → Bare (gm X T)) (ha : CE X T W a da) : CE X T W (.Subscript a (.Slice none none (some (.UnaryOp .USub (.Constant (.int 1) k p1) p2)) p3) pos) (dRev mt da) :=
  pe_imp (pe_revL ha) fun σ H Q ⟨ρ, S, m, hE, hS, p⟩ =>
    tr_bind (f := fun (x : PV) (ρ : EnP) (S1 : Sto) => fRev mt x S1) hE hS p fun x S1 m1 H1 w s1 hE1 hS1 hr1 p1 => by
      unfold fRev at p1
      cases e : lstOf x S1 with
      | none => rw [e] at p1; exact p1.elim
      | some xs =>
        rw [e] at p1
        obtain ⟨b, vs, rfl, h1, h2⟩ := lstOf_rep hS1 hr1 e
        exact ⟨b, vs, rfl, h1, (new_lst hb hS1 (RepL.rev h2) p1).2⟩
end
/-! ### lists of flat values made under an error -/
theorem flatL_any {g g' : Gm} {m m' : Mm} {H H' : Hp} : ∀ {xs : List PV} {vs : List V}, xs.all flatP = true → RepL g m H xs vs → RepL g' m' H' xs vs
  | [], _, _, r => by unfold RepL at r; subst r; exact RepL.nil
  | x :: xs, _, h, r => by
    unfold RepL at r
    obtain ⟨v, ws, rfl, h1, h2⟩ := r
    rw [List.all_cons, Bool.and_eq_true] at h
    exact RepL.cons (flat_any h.1 h1) (flatL_any h.2 h2)
def mkLstF (xs : List PV) (S : Sto) : Res PV := if xs.all flatP = true then mkLst true xs S else .bad
def dLstF (dl : EnP → Sto → Res (List PV)) : EnP → Sto → Res PV := fun ρ S => (dl ρ S).bind fun xs S1 => mkLstF xs S1
def fAppF (n : Nat) (y : PV) (S : Sto) : Res PV := if flatP y = true then fApp n y S else .bad
def appF1 (n : Nat) (S : Sto) : List PV → Res PV
  | [y] => fAppF n y S
  | _ => .bad
def dAppF (d : EnP → Sto → Res PV) (dl : EnP → Sto → Res (List PV)) : EnP → Sto → Res PV := fun ρ S => (d ρ S).bind fun x S1 => match x with
  | .ref n => (match S1[n]? with
    | some (SO.lst _) => (dl ρ S1).bind fun ys S2 => appF1 n S2 ys
    | _ => .bad)
  | _ => .bad
section
variable {X : Cx} {T : Tb} {W : WX} {pos : Pos} {o e : Expr} {es : List Expr} {d : EnP → Sto → Res PV} {dl : EnP → Sto → Res (List PV)} {apos cpos : Pos}
theorem ce_lstF (h : CA X T W es dl) : CE X T W (.List es pos) (dLstF dl) :=
  pe_imp (pe_lst h) fun σ H Q ⟨ρ, S, m, hE, hS, p⟩ => tr_bind (f := fun xs _ S1 => mkLstF xs S1) hE hS p fun xs S1 m1 H1 ws s1 hE1 hS1 hr1 p1 => by
    unfold mkLstF at p1
    split at p1
    · rename_i hf
      unfold mkLst at p1
      split at p1
      · rename_i hl
        refine ⟨by rw [← hr1.length]; exact lim_line hl, fun a ha => ?_⟩
        have hB : RelS (gm X T).bare m1 S1 H1 := relS_as (g := gm X T) (g' := (gm X T).bare) rfl hS1
        have hA := hB.alloc rfl ha (flatL_any hf hr1)
        refine p1 (m1.push a) _ _ (step_alloc ha) (relS_as (g := (gm X T).bare) (g' := gm X T) rfl hA) ?_
        show Rep _ _ _ (.ref S1.length) _
        unfold Rep
        exact ⟨a, by rw [List.getElem?_append_right (by rw [hS1.len]; omega), hS1.len]; simp, rfl⟩
      · exact p1.elim
    · exact p1.elim
theorem ce_appF (ho : CE X T W o d) (ha : CA X T W (e :: es) dl)
    (hbase : attributeBase o "append" X.env (eval o X.env) = eval o X.env := by rfl)
    (hfew : ((backTo cpos (starEach (e :: es) X.env)).all (fun x => !x.1) && (backToKw cpos (keywordEach [] X.env)).all (fun x => x.1.isSome)
      && decide ((e :: es).length + ([] : List Keyword).length + (if ([] : List Keyword).isEmpty then 0 else 1) < 30)) = true := by rfl)
    (hline : (apos.endLine == cpos.line) = true := by rfl) (hs : starEach (e :: es) X.env = (false, eval e X.env) :: starEach es X.env := by rfl) (hplain : (backTo cpos (starEach es X.env)).any (·.1) = false := by rfl) :
    CE X T W (.Call (.Attribute o "append" apos) (e :: es) [] cpos) (dAppF d dl) :=
  pe_imp (pe_bm PySem.F.plainAttrs_list PySem.F.slot_list_append PySem.F.type_list_append mt_append ho ha hbase hfew hline hs hplain) fun σ H Q ⟨ρ, S, m, hE, hS, p⟩ =>
    tr_bind (f := fun (x : PV) (ρ : EnP) (S1 : Sto) => match x with | .ref n => (match S1[n]? with | some (SO.lst _) => (dl ρ S1).bind fun ys S2 => appF1 n S2 ys | _ => .bad) | _ => .bad) hE hS p fun x S1 m1 H1 w s1 hE1 hS1 hr1 p1 => by
      cases x with
      | ref n =>
        have p1 : PostV (gm X T) W σ m1 H1 Q (match S1[n]? with | some (SO.lst _) => (dl ρ S1).bind fun ys S2 => appF1 n S2 ys | _ => .bad) := p1
        split at p1
        case h_2 => exact p1.elim
        rename_i xs0 e0
        obtain ⟨a, vs0, e1, rfl, f2, _⟩ := ref_any hS1 hr1 e0
        refine ⟨.inl ⟨rfl, vs0, .inl (.inl f2)⟩, tr_bind (f := fun (ys : List PV) (ρ : EnP) (S2 : Sto) => appF1 n S2 ys) hE1 hS1 p1 fun ys S2 m2 H2 ws s2 hE2 hS2 hr2 p2 => ?_⟩
        unfold appF1 at p2
        split at p2
        · rename_i y
          obtain ⟨u, rfl, ru⟩ := one_rep hr2
          unfold fAppF at p2
          split at p2
          · rename_i hf
            unfold fApp at p2
            split at p2
            · rename_i xs e3
              split at p2
              · rename_i hl
                have hB : RelS (gm X T).bare m2 S2 H2 := relS_as (g := gm X T) (g' := (gm X T).bare) rfl hS2
                have rr : Rep (gm X T).bare m2 H2 (.ref n) (.ref a) := by
                  have := hr1.step s2
                  unfold Rep at this ⊢
                  exact this
                obtain ⟨a', vs, g1, g2, g3, g4⟩ := ref_rep hB rr e3
                cases g2
                have hn2 : n < S2.length := (List.getElem?_eq_some_iff.mp e3).1
                refine ⟨a, vs, u, rfl, rfl, g3, ?_, ?_⟩
                · rw [sizeLine_eq, ← g4.length]; exact hl
                · exact p2 m2 _ _ (step_write (List.mem_of_getElem? g1) g3) (relS_as (g := (gm X T).bare) (g' := gm X T) rfl (hB.write rfl g1 hn2 g3 (g4.append (RepL.cons (flat_any hf ru) RepL.nil)))) mk_non
              · exact p2.elim
            · exact p2.elim
          · exact p2.elim
        · exact p2.elim
      | _ => exact p1.elim
end
/-! ### x in a tuple of data -/
def rInT (neg : Bool) (K : PySem.W.Frag) : R2 := fun x y H Q => ∃ d ds, Dp K H x d ∧ Dp K H y (.tuple ds) ∧ SeqAt.shaped d = true ∧ SeqAt.shaped (.tuple ds) = true ∧ Q (.bl (if neg = true then !(ds.any fun z => PyData.eqv z d) else ds.any fun z => PyData.eqv z d)) H
theorem op_inT {X : Cx} (hu : X.A.units + 65 < cLine) : OpR X (compareOp .In) (rInT false X.K) := by
  intro pins s σ H x y v u Q I rx ry h
  obtain ⟨d, ds, hd, he, sd, se, q⟩ := h
  obtain ⟨as, r1⟩ := Dp.reads I d x v hd rx
  obtain ⟨bs, r2⟩ := Dp.reads I (.tuple ds) y u he ry
  exact SeqAt.in_tuple_reads r2 r1 (SeqAt.canLay_of_shaped se) (SeqAt.canLay_of_shaped sd) (room_in_shaped sd hu) ⟨.bl _, H, I, rfl, q⟩
theorem op_notInT {X : Cx} (hu : X.A.units + 65 < cLine) : OpR X (compareOp .NotIn) (rInT true X.K) := by
  intro pins s σ H x y v u Q I rx ry h
  obtain ⟨d, ds, hd, he, sd, se, q⟩ := h
  obtain ⟨as, r1⟩ := Dp.reads I d x v hd rx
  obtain ⟨bs, r2⟩ := Dp.reads I (.tuple ds) y u he ry
  exact SeqAt.notIn_tuple_reads r2 r1 (SeqAt.canLay_of_shaped se) (SeqAt.canLay_of_shaped sd) (room_in_shaped sd hu) ⟨.bl _, H, I, rfl, q⟩
def fInT (neg : Bool) (x y : PV) (S : Sto) : Res PV := match toDS x S, toDS y S with
  | some d, some (.tuple ds) => if SeqAt.shaped d = true ∧ SeqAt.shaped (.tuple ds) = true then .ok (.bl (if neg = true then !(ds.any fun z => PyData.eqv z d) else ds.any fun z => PyData.eqv z d)) S else .bad
  | _, _ => .bad
theorem sn_inT {X : Cx} {T : Tb} (neg : Bool) : Snd (gm X T) (rInT neg X.K) (fInT neg) := by
  intro W σ m S H x y v u Q hS rx ry p
  unfold fInT at p
  split at p
  · rename_i d ds h1 h2
    split at p
    · rename_i h
      exact ⟨d, ds, dpS_of hS rx h1, dpS_of hS ry h2, h.1, h.2, p.here hS (mk_bl _)⟩
    · exact p.elim
  · exact p.elim
end Mi
end
section
set_option Elab.async false
set_option linter.all false
set_option maxRecDepth 100000
set_option maxHeartbeats 2000000
namespace Mi
open PySem PySem.Spec PyProof.Rows L2
/-! ### raise C(x), C an own class whose __init__ keeps x -/
def spI (C : Addr) (f : Str) : Sp := fun vs G R _ => ∃ (a : Addr) (y : V), vs = [.ref a, y] ∧ G a = some (exo a C none) ∧ ∀ dx, G dx = none → dx ≠ a → R .non (upd (upd G dx (exd dx [(f, y)])) a (exo a C (some dx)))
/-- what an own class says whose errors have one field -/
structure EF (K : PySem.W.Frag) (mg : Str → Option Value) (x f : Str) (C : Addr) : Prop where
  at_ : mg x = some (.ref C)
  oex : OexC K C
  fld : PySem.W.findIn K (.ref C) f = some none
  ini : ∃ (fI : Addr) (q y : Str) (params : Arguments) (scope : Scope) (p1 p2 p3 p4 : Pos) (dV kV doc pm cdv ct oc : Value) (an od : Option Addr) (osl : Array (Option Value)),
    PySem.W.findIn K (.ref C) "__init__" = some (some (.ref fI)) ∧ PySem.W.typeIn K (.ref fI) = some (.type "function") ∧
    K.lookup fI = some ⟨oc, od, .func (PySem.W.fnOf "__init__" q params [.Assign [.Attribute (.Name "self" p1) f p2] (.Name y p3) p4] scope dV kV doc pm an cdv ct), osl⟩ ∧ PySem.W.codeIn K cdv q = true ∧ FnScope ["self", y] ["self", y] scope ∧
    (y == ("__debug__" : Str)) = false ∧ (y == ("__classdict__" : Str)) = false ∧ Vis scope "self" ∧ Vis scope y ∧
    (∀ us : List Value, us.length = 2 → bindArgs (PySem.W.fnOf "__init__" q params [.Assign [.Attribute (.Name "self" p1) f p2] (.Name y p3) p4] scope dV kV doc pm an cdv ct) ⟨us, []⟩ = pure ((["self", y] : List Str).zip us))
theorem passF {X : Cx} : Passes (L2.CX X.prog X.w) X (fun _ _ _ => False) := by
  intro pz σz G sz e s' J hc
  obtain ⟨_, _, _, _, _, _, _, _, _, _, _, _, hf⟩ := hc
  exact hf.elim
theorem oex_mk {K : PySem.W.Frag} {C : Addr} {nm q : Str} {N bs bm sn sub ab col dd k0 k1 k2 k3 k5} (c0 : K.lookup C = some (excClassObj nm q C N bs bm true sn sub ab col dd k0 k1 k2 k3 k5 "ValueError.__new__")) (c1 : PySem.HandSPX.refsVE bm = true)
    (c2 : PySem.W.findIn K (.ref C) "__setattr__" = some (some (.builtin "object.__setattr__"))) (c3 : PySem.W.subIn K (.ref C) (.type "BaseException") = some true) (c4 : PySem.W.typeIn K (.ref C) = some (.type "type")) (c5 : PySem.W.keepIn K (.ref C) = true) : OexC K C :=
  ⟨⟨nm, q, N, bs, bm, sn, sub, ab, col, dd, k0, k1, k2, k3, k5, c0, c1⟩, c2, c3, c4, c5⟩
abbrev EF1 (K : PySem.W.Frag) (mg : Str → Option Value) (x f : Str) : Prop := ∃ C, EF K mg x f C
theorem ef_mk {K : PySem.W.Frag} {mg : Str → Option Value} {h : Heap} {x f : Str} {C fI : Addr} {q y : Str} {params : Arguments} {scope : Scope} {p1 p2 p3 p4 : Pos} {dV kV doc pm cdv ct oc : Value} {an od : Option Addr} {osl : Array (Option Value)}
    (X : K.In h) (G : h.Ns mainGlobals mg) (a : PySem.W.nsIn K mainGlobals x = some (some (.ref C))) (ox : OexC K C) (fl : PySem.W.findIn K (.ref C) f = some none)
    (i1 : PySem.W.findIn K (.ref C) "__init__" = some (some (.ref fI))) (i2 : PySem.W.typeIn K (.ref fI) = some (.type "function"))
    (lk : K.lookup fI = some ⟨oc, od, .func (PySem.W.fnOf "__init__" q params [.Assign [.Attribute (.Name "self" p1) f p2] (.Name y p3) p4] scope dV kV doc pm an cdv ct), osl⟩) (cd : PySem.W.codeIn K cdv q = true) (Sc : FnScope ["self", y] ["self", y] scope)
    (hy1 : (y == ("__debug__" : Str)) = false) (hy2 : (y == ("__classdict__" : Str)) = false) (v1 : Vis scope "self") (v2 : Vis scope y)
    (hb : ∀ us : List Value, us.length = 2 → bindArgs (PySem.W.fnOf "__init__" q params [.Assign [.Attribute (.Name "self" p1) f p2] (.Name y p3) p4] scope dV kV doc pm an cdv ct) ⟨us, []⟩ = pure ((["self", y] : List Str).zip us)) : EF1 K mg x f :=
  ⟨C, PySem.W.mg_of X G a, ox, fl, fI, q, y, params, scope, p1, p2, p3, p4, dV, kV, doc, pm, cdv, ct, oc, an, od, osl, i1, i2, lk, cd, Sc, hy1, hy2, v1, v2, hb⟩
def dRaiseF (x f : Str) (de : EnP → Sto → Res PV) : EnP → Sto → SR := fun ρ S => sE (de ρ S) ρ fun v S1 => match v with
  | .int i => .exc x [(f, .int i)] ρ S1
  | _ => .bad
section
variable {X : Cx} {T : Tb} {W : WX} {k : Nat} {x f : Str} {p pos pos2 : Pos} {e : Expr} {de : EnP → Sto → Res PV}
theorem cs_raiseF (h1 : EF1 X.K X.mg x f) (Cx_ : Ctx X k W) (hk : 2 ≤ k) (hg : Gl X x) (he : CA X T W (e :: []) (dCons de dNil)) (hdb : (x == ("__debug__" : Str)) = false := by decide)
    (hst : starEach (e :: []) X.env = (false, eval e X.env) :: starEach [] X.env := by rfl) (hpl : (backTo pos (starEach [] X.env)).any (·.1) = false := by rfl) :
    CS X T W (.Raise (some (.Call (.Name x p) [e] [] pos)) none pos2) (dRaiseF x f de) := by
  obtain ⟨C, h⟩ := h1
  obtain ⟨fI, q, y, params, scope, p1, p2, p3, p4, dV, kV, doc, pm, cdv, ct, oc, an, od, osl, i1, i2, lk, hcd, Sc, hy1, hy2, v1, v2, hb⟩ := h.ini
  have F1 : FnOk X.prog X.w X.K X.mg X.base (L2.CX X.prog X.w) 1 fI (PySem.W.fnOf "__init__" q params [.Assign [.Attribute (.Name "self" p1) f p2] (.Name y p3) p4] scope dV kV doc pm an cdv ct) ["self", y] (spI C f) := by
    refine fn_of (k := 0) (N := ["self", y]) lk hcd Sc (fun vs G R E hs => ?_) fun A outer s G vs R E hr hs => ?_
    · obtain ⟨a, z, rfl, _⟩ := hs
      rfl
    · obtain ⟨a, z, rfl, ha, hn⟩ := hs
      refine ⟨_, pss_one (ps_ost (pe_var (i := 0) rfl v1 (by decide) (by decide)) (pe_var (i := 1) rfl v2 hy1 hy2)), ?_⟩
      exact ⟨z, rfl, .ref a, rfl, a, C, rfl, h.oex, h.fld, .inl ⟨ha, hn⟩⟩
  refine ps_imp (ps_raise Cx_.calm Cx_.tk (pmk_oex (dvs := []) (ds := []) h.oex i1 i2 F1 (Cx_.room.mono hk) (Binds.all hb) .nil passF hg h.at_ he hdb hst hpl)) fun D σ H ⟨ρ, S, m, hE, hS, pp⟩ => ?_
  show tl (gm X T) W (dCons de dNil) σ H _
  refine ⟨ρ, S, m, hE, hS, ?_⟩
  unfold dRaiseF at pp
  unfold dCons
  cases q1 : de ρ S with
  | bad => rw [q1] at pp; exact pp.elim
  | exc c fs S1 =>
    rw [q1] at pp
    exact fun m' H' cls dd s h1 h2 => pp m' H' σ cls dd s h1 (hE.step s) h2
  | ok v S1 =>
    rw [q1] at pp
    cases v with
    | int i =>
      intro m1 H1 ws s1 hS1 hr1
      obtain ⟨w, rfl, rw_⟩ := one_rep hr1
      have ew := rep_int rw_
      subst ew
      refine ⟨by show 1 ≤ 1000; omega, fun a ha => ⟨a, .int i, rfl, upd_same, fun dx hdx ne => ?_⟩⟩
      rw [upd_ne ne] at hdx
      refine ⟨rfl, dx, [(f, .int i)], upd_same, by rw [upd_ne ne, upd_same], hdx, ?_⟩
      have eh : upd (del (upd (upd (upd H1 a (exo a C none)) dx (exd dx [(f, .int i)])) a (exo a C (some dx))) a) dx (.xd [(f, .int i)]) = upd H1 dx (.xd [(f, .int i)]) := by
        funext b
        by_cases h1 : b = dx
        · rw [h1, upd_same, upd_same]
        · rw [upd_ne h1, upd_ne h1]
          by_cases h2 : b = a
          · rw [h2, del_same, ha]
          · rw [del_ne h2, upd_ne h2, upd_ne h1, upd_ne h2]
      rw [eh]
      have st : Step m1 H1 m1 (upd H1 dx (.xd [(f, .int i)])) := step_new hdx
      have s2 := s1.trans st
      refine pp m1 _ σ (.ref C) (some dx) s2 (hS1.new hdx) (hE.step s2) ⟨C, h.at_, rfl, (fun z => nomatch z), fun _ => ⟨dx, [(f, .int i)], rfl, upd_same, ?_⟩⟩
      exact ⟨.int i, [], rfl, mk_int i, rfl⟩
    | _ => exact pp.elim
end
theorem ce_geF {X : Cx} {T : Tb} {W : WX} {x f : Str} {pos : Pos} (c : EF1 X.K X.mg x f) (hg : Gl X x) (hd : (x == ("__debug__" : Str)) = false := by decide) : CE X T W (.Name x pos) (dC (.glb x)) := by
  obtain ⟨C, h⟩ := c
  exact ce_gfn hg h.at_ hd
end Mi
end
section
set_option Elab.async false
set_option linter.all false
set_option maxRecDepth 100000
set_option maxHeartbeats 2000000
namespace Mi
open PySem PySem.Spec PyProof.Rows L2
section
variable {X : Cx} {T : Tb} {W : WX}
/-! ### texts -/
/-- int(text) -/
theorem sl_intS : SndL (gm X T) (fun xs H Q => ∃ a n, xs = [.str a] ∧ PySem.intText? a = some n ∧ a.length ≤ 640 ∧ Q (.int n) H) fIntS := by
  intro W σ m S H xs vs Q hS r p
  unfold fIntS at p
  split at p
  · rename_i a
    obtain ⟨v, rfl, rx⟩ := one_rep r
    cases rep_str rx
    split at p
    · rename_i n e
      split at p
      · rename_i h
        exact ⟨a, n, rfl, e, h, p.here hS (mk_int _)⟩
      · exact p.elim
    · exact p.elim
  · exact p.elim
/-- a in b, both texts -/
def fInS (neg : Bool) : PV → PV → Sto → Res PV
  | .str a, .str b, S => .ok (.bl (if neg = true then !(!(Builtin.Str.occurrences b a 0 b.length 1).isEmpty) else !(Builtin.Str.occurrences b a 0 b.length 1).isEmpty)) S
  | _, _, _ => .bad
theorem sn_inS : Snd (gm X T) (fun x y H Q => ∃ i j, x = .str i ∧ y = .str j ∧ Q (.bl (!(Builtin.Str.occurrences j i 0 j.length 1).isEmpty)) H) (fInS false) := by
  intro W σ m S H x y v u Q hS rx ry p
  unfold fInS at p
  split at p
  · cases rep_str rx
    cases rep_str ry
    exact ⟨_, _, rfl, rfl, p.here hS (mk_bl _)⟩
  · exact p.elim
/-- list(text) -/
def rLstS : List V → Hp → VK → Prop := fun xs H Q => ∃ a : Str, xs = [.str a] ∧ a.length ≤ sizeLine ∧ ∀ l, H l = none → Q (.ref l) (upd H l (.lst (a.cps.toList.map fun c => V.str ⟨#[c]⟩)))
theorem call_listS (hc : X.calm = true) : CallR X (.type "list") rLstS := by
  intro pins s σ H xs us Q I rs h
  obtain ⟨a, rfl, hl, q⟩ := h
  cases rs with
  | cons r1 rs =>
    cases rs
    obtain ⟨t, rfl⟩ := r1
    refine call_list_str (I.ok.hd hc) a t (hn := hl) fun h' tk acc' c' hk hS' hacc => ?_
    have hp := I.hok.fresh (Nat.le_refl _)
    refine ⟨.ref s.heap.objs.size, upd H s.heap.objs.size (.lst (a.cps.toList.map fun c => V.str ⟨#[c]⟩)), I.laid (t' := tk) hk (Nat.le_refl _) ⟨by rw [List.length_map, Array.length_toList]; exact hl, acc'.toList, c', ?_, hS'⟩, rfl, q _ hp⟩
    refine vals_of_at (by simp [hacc.1]) fun j v w h1 h2 => ?_
    rw [List.getElem?_map] at h1
    obtain ⟨c, u, e, rfl⟩ := hacc.2 j w (by simpa using h2)
    have e' : a.cps.toList[j]? = some c := by simpa using e
    rw [e'] at h1
    cases h1
    exact ⟨u, rfl⟩
def fListS : List PV → Sto → Res PV
  | [.str a], S => if a.length ≤ lim then .ok (.nl (signs a)) S else .bad
  | _, _ => .bad
theorem repL_strs {g : Gm} {m : Mm} {H : Hp} : ∀ ys : List Str, RepL g m H (ys.map PV.str) (ys.map V.str)
  | [] => RepL.nil
  | y :: ys => RepL.cons (mk_str y) (repL_strs ys)
theorem sl_listS : SndL (gm X T) rLstS fListS := by
  intro W σ m S H xs vs Q hS r p
  unfold fListS at p
  split at p
  · rename_i a
    obtain ⟨v, rfl, rx⟩ := one_rep r
    cases rep_str rx
    split at p
    · rename_i h
      have rr : RepL (gm X T) m H (signs a) (a.cps.toList.map fun c => V.str ⟨#[c]⟩) := by
        have := repL_strs (g := gm X T) (m := m) (H := H) (a.cps.toList.map fun c => (⟨#[c]⟩ : Str))
        rw [List.map_map, List.map_map] at this
        exact this
      have z := new_lst (mt := false) (W := W) (σ := σ) (Q := Q) (fun z => nomatch z) hS rr (by
        unfold mkLst
        rw [if_pos (by unfold signs; rw [List.length_map, Array.length_toList]; exact h)]
        exact p)
      exact ⟨a, rfl, lim_line h, z.2⟩
    · exact p.elim
  · exact p.elim
/-- text * i -/
def fMulS : PV → PV → Sto → Res PV
  | .str a, .int k, S => if 2 ≤ k ∧ k ≤ 10000 ∧ 1 ≤ a.length ∧ a.length ≤ 100 then .ok (.str ⟨(List.replicate k.toNat a.cps).foldl (· ++ ·) #[]⟩) S else .bad
  | _, _, _ => .bad
def rMulS : R2 := fun x y H Q => ∃ a k, x = .str a ∧ y = .int k ∧ 2 ≤ k ∧ k ≤ 10000 ∧ 1 ≤ a.length ∧ a.length ≤ 100 ∧ Q (.str ⟨(List.replicate k.toNat a.cps).foldl (· ++ ·) #[]⟩) H
theorem sn_mulS : Snd (gm X T) rMulS fMulS := by
  intro W σ m S H x y v u Q hS rx ry p
  unfold fMulS at p
  split at p
  · cases rep_str rx
    cases rep_int ry
    split at p
    · rename_i h
      exact ⟨_, _, rfl, rfl, h.1, h.2.1, h.2.2.1, h.2.2.2, p.here hS (mk_str _)⟩
    · exact p.elim
  · exact p.elim
/-! ### sep.join(list), text.split(sep) -/
def strsOf : List PV → Option (List Str)
  | [] => some []
  | .str s :: r => (strsOf r).map (s :: ·)
  | _ :: _ => none
theorem strsOf_rep {g : Gm} {m : Mm} {H : Hp} : ∀ {xs : List PV} {vs : List V} {ys : List Str}, RepL g m H xs vs → strsOf xs = some ys → vs = ys.map V.str
  | [], vs, ys, r, e => by unfold RepL at r; cases e; rw [r]; rfl
  | x :: xs, vs, ys, r, e => by
    unfold RepL at r
    obtain ⟨v, ws, rfl, h1, h2⟩ := r
    cases x with
    | str s =>
      unfold strsOf at e
      cases q : strsOf xs with
      | none => rw [q] at e; cases e
      | some zs =>
        rw [q] at e
        cases e
        rw [strsOf_rep h2 q, rep_str h1]
        rfl
    | _ => cases e
def fJoin (x y : PV) (S : Sto) : Res PV := match x, lstOf y S with
  | .str a, some xs => (match strsOf xs with
    | some ys => if (ys.map (·.length)).sum + ys.length * a.length ≤ 16777216 then .ok (.str (Txt.join a ys)) S else .bad
    | none => .bad)
  | _, _ => .bad
def isStr : PV → Bool
  | .str _ => true
  | _ => false
theorem isStr_rep {g : Gm} {m : Mm} {H : Hp} {x : PV} {v : V} (r : Rep g m H x v) (e : isStr x = true) : ∃ a, x = .str a ∧ v = .str a := by
  cases x with
  | str a => exact ⟨a, rfl, rep_str r⟩
  | _ => cases e
def dM1 (f : PV → PV → Sto → Res PV) (d de : EnP → Sto → Res PV) : EnP → Sto → Res PV := fun ρ S => (d ρ S).bind fun x S1 => if isStr x = true then (de ρ S1).bind fun y S2 => f x y S2 else .bad
theorem m1_of {r : V → List V → Hp → VK → Prop} {f : PV → PV → Sto → Res PV} {d de : EnP → Sto → Res PV} (hs : ∀ (W : WX) (σ : L2.St) (m : Mm) (S : Sto) (H : Hp) (x y : PV) (v u : V) (Q : VK), RelS (gm X T) m S H → Rep (gm X T) m H x v → Rep (gm X T) m H y u → PostV (gm X T) W σ m H Q (f x y S) → r v [u] H Q)
    {σ : L2.St} {H : Hp} {Q : VK} (h : tv (gm X T) W (dM1 f d de) σ H Q) : tM1 r (tv (gm X T) W d) (tv (gm X T) W de) σ H Q := by
  obtain ⟨ρ, S, m, hE, hS, p⟩ := h
  refine tr_bind (f := fun (x : PV) (ρ : EnP) (S1 : Sto) => if isStr x = true then (de ρ S1).bind fun y S2 => f x y S2 else .bad) hE hS p fun x S1 m1 H1 w s1 hE1 hS1 hr1 p1 => ?_
  cases e : isStr x with
  | false => rw [e, if_neg Bool.false_ne_true] at p1; exact p1.elim
  | true =>
    rw [e, if_pos rfl] at p1
    obtain ⟨a, rfl, rfl⟩ := isStr_rep hr1 e
    refine ⟨⟨a, rfl⟩, tr_bind (f := fun (y : PV) (_ : EnP) (S2 : Sto) => f (.str a) y S2) hE1 hS1 p1 fun y S2 m2 H2 u s2 hE2 hS2 hr2 p2 => ?_⟩
    exact hs W σ m2 S2 H2 (.str a) y (.str a) u Q hS2 (mk_str a) hr2 p2
variable {o e : Expr} {d de : EnP → Sto → Res PV} {apos pos : Pos}
theorem ce_join (ho : CE X T W o d) (he : CE X T W e de) (hs : starEach [e] X.env = [(false, eval e X.env)] := by rfl) (hbase : attributeBase o "join" X.env (eval o X.env) = eval o X.env := by rfl) (hline : (apos.endLine == pos.line) = true := by rfl) :
    CE X T W (.Call (.Attribute o "join" apos) [e] [] pos) (dM1 fJoin d de) :=
  pe_imp (pe_join ho he hs hbase hline) fun σ H Q h => m1_of (fun W σ m S H x y v u Q hS rx ry p => by
    unfold fJoin at p
    split at p
    · rename_i a xs e1
      split at p
      · rename_i ys e2
        split at p
        · rename_i hz
          cases rep_str rx
          obtain ⟨b, vs, rfl, h1, h2⟩ := lstOf_rep hS ry e1
          have q := strsOf_rep h2 e2
          subst q
          exact ⟨a, b, ys, rfl, rfl, .inl h1, hz, p.here hS (mk_str _)⟩
        · exact p.elim
      · exact p.elim
    · exact p.elim) h
def fSplit (x y : PV) (S : Sto) : Res PV := match x, y with
  | .str a, .str b => if (b.length == 0) = false ∧ a.length ≤ 100000 then mkLst false ((Txt.split a b).map PV.str) S else .bad
  | _, _ => .bad
theorem ce_split (ho : CE X T W o d) (he : CE X T W e de) (hs : starEach [e] X.env = [(false, eval e X.env)] := by rfl) (hbase : attributeBase o "split" X.env (eval o X.env) = eval o X.env := by rfl) (hline : (apos.endLine == pos.line) = true := by rfl) :
    CE X T W (.Call (.Attribute o "split" apos) [e] [] pos) (dM1 fSplit d de) :=
  pe_imp (pe_split ho he hs hbase hline) fun σ H Q h => m1_of (fun W σ m S H x y v u Q hS rx ry p => by
    unfold fSplit at p
    split at p
    · split at p
      · rename_i a b hz
        cases rep_str rx
        cases rep_str ry
        have z := new_lst (mt := false) (fun z => nomatch z) hS (repL_strs (g := gm X T) (m := m) (H := H) (Txt.split a b)) p
        exact ⟨a, b, rfl, rfl, hz.1, by rw [sizeLine_eq]; have := hz.2; omega, z.2⟩
      · exact p.elim
    · exact p.elim) h
end
theorem fold_size {α : Type} (c : Array α) : ∀ (k : Nat) (acc : Array α), ((List.replicate k c).foldl (· ++ ·) acc).size = acc.size + k * c.size
  | 0, acc => by simp
  | k + 1, acc => by
    rw [List.replicate_succ, List.foldl_cons, fold_size c k, Array.size_append, Nat.succ_mul]
    omega
theorem fold_list {α : Type} (c : Array α) : ∀ (k : Nat) (acc : Array α), ((List.replicate k c).foldl (· ++ ·) acc).toList = acc.toList ++ (List.replicate k c.toList).flatten
  | 0, acc => by simp
  | k + 1, acc => by
    rw [List.replicate_succ, List.foldl_cons, fold_list c k, List.replicate_succ, List.flatten_cons, Array.toList_append, List.append_assoc]
/-- text * i -/
theorem op_mulS {X : Cx} : OpR X (binaryOp .Mult) rMulS := by
  intro pins s σ H x y v u Q I rx ry h
  obtain ⟨a, k, rfl, rfl, h1, h2, h3, h4, q⟩ := h
  obtain ⟨t, rfl⟩ := rx
  obtain ⟨t', rfl⟩ := ry
  have kn : ¬ k < 1 := by omega
  have k1 : (k == 1) = false := beq_eq_false_iff_ne.mpr (by omega)
  have l0 : (a.length == 0) = false := beq_eq_false_iff_ne.mpr (by omega)
  have big : a.length * k.toNat ≤ 1000000 := by
    have := Nat.mul_le_mul h4 (show k.toNat ≤ 10000 by omega)
    omega
  refine PySem.P.mul_str (by rw [decide_eq_false (by omega), decide_eq_false (by omega)]; rfl) (fun _ _ => ?_) (fun _ _ => ?_) ?_
  · have : (1000 : Int) ≤ (2 ^ 63 - 1) / k := by
      rw [Int.le_ediv_iff_mul_le (by omega)]
      omega
    omega
  · unfold Builtin.Str.tooLong
    rw [sizeLine_eq]
    exact decide_eq_false (by omega)
  · rw [if_neg kn, k1, l0]
    refine ⟨?_, .str _, H, I.tok _, ⟨_, rfl⟩, q⟩
    show ((List.replicate k.toNat a.cps).foldl (· ++ ·) #[]).size ≤ sizeLine
    rw [fold_size, sizeLine_eq]
    have e : k.toNat * a.cps.size = a.length * k.toNat := Nat.mul_comm _ _
    simp only [List.size_toArray, List.length_nil]
    omega
/-! ### the field of an error -/
def dErrFld (isT : PV → Option Bool) (x f c1 : Str) (fs : List (Str × PV)) (i : Nat) : EnP → Sto → Res PV := fun ρ S => match ρ[i]? with
  | some (some .err) => if c1 = x ∧ (isT (.glb x)).isSome = true then (match fs.lookup f with | some (.int k) => .ok (.int k) S | _ => .bad) else .bad
  | _ => .bad
theorem ce_errFld {X : Cx} {T : Tb} {W : WX} {a D : Addr} {d : Option Addr} {ws : List (Str × V)} {oe : Obj} {pn : List (Addr × Obj)} {isT : PV → Option Bool} {x f c1 y : Str} {fs : List (Str × PV)} {i : Nat} {p pos : Pos}
    (hF : EF1 X.K X.mg x f) (h1 : X.mg c1 = some (.ref D)) (h3 : ∀ f k, fs.lookup f = some (.int k) → d ≠ none ∧ ws.lookup f = some (.int k)) (h : (ExcC X.K D ∧ IsT X.K X.mg D isT) ∨ ∀ t, isT t = none) (hz : Zc (.ref D) d oe) (hf : ∃ vs, oe.data = .fields vs)
    (he : CE (X.suite a ((a, oe) :: pn)) (T.err (d.map fun x => (x, ws))) W (.Name y p) (dV i))
    (hb : attributeBase (.Name y p) f (X.suite a ((a, oe) :: pn)).env (eval (.Name y p) (X.suite a ((a, oe) :: pn)).env) = eval (.Name y p) (X.suite a ((a, oe) :: pn)).env := by rfl) :
    CE (X.suite a ((a, oe) :: pn)) (T.err (d.map fun x => (x, ws))) W (.Attribute (.Name y p) f pos) (dErrFld isT x f c1 fs i) := by
  refine ⟨fun pins s σ H Q I ⟨ρ, S, m, hE, hS, q⟩ => ?_⟩
  unfold dErrFld at q
  split at q
  · rename_i er
    split at q
    · rename_i g
      obtain ⟨gx, gs⟩ := g
      subst gx
      cases lk : fs.lookup f with
      | none => rw [lk] at q; exact q.elim
      | some v =>
        cases v with
        | int k =>
          rw [lk] at q
          rcases h with ⟨hx, _⟩ | hn
          · obtain ⟨dn, wl⟩ := h3 f k lk
            obtain ⟨C, hC⟩ := hF
            have eC : C = D := by
              have := hC.at_
              rw [h1] at this
              cases this
              rfl
            subst eC
            refine (pe_xf ⟨hx.hg, hx.hk, hx.hs, hx.hd⟩ hC.fld hz hf he hb).run pins s σ H Q I ?_
            refine ⟨ρ, S, m, hE, hS, ?_⟩
            have e0 : dV i ρ S = .ok .err S := by unfold dV; rw [er]
            rw [e0]
            intro m' H' w st hS' hr
            have hr : Rep (gm (X.suite a ((a, oe) :: pn)) (T.err (d.map fun x => (x, ws)))) m' H' .err w := hr
            unfold Rep at hr
            obtain ⟨a', e1, rfl, r3⟩ := hr
            have e1 : some (Value.ref a) = some (.ref a') := e1
            cases e1
            cases d with
            | none => exact absurd rfl dn
            | some dx =>
              obtain ⟨_, hd⟩ := r3 dx ws rfl
              exact ⟨rfl, rfl, dx, ws, .int k, rfl, hd, wl, q m' H' (.int k) st hS' (mk_int k)⟩
          · rw [hn] at gs; cases gs
        | _ => rw [lk] at q; exact q.elim
    · exact q.elim
  · exact q.elim
theorem css_bad {X : Cx} {T : Tb} {W : WX} {st : List Stmt} : CSs X T W st (fun _ _ => .bad) := ⟨fun pins s σ H D I ⟨_, _, _, _, _, p⟩ => p.elim⟩
theorem cs_bad {X : Cx} {T : Tb} {W : WX} {st : Stmt} : CS X T W st (fun _ _ => .bad) := ⟨fun pins s σ H D I ⟨_, _, _, _, _, p⟩ => p.elim⟩
end Mi
end
section
set_option Elab.async false
set_option linter.all false
set_option maxRecDepth 100000
set_option maxHeartbeats 1000000
/-! fractions as core's rationals -/
namespace Ra
open PySem PySem.Spec PyProof.Rows L2 Mi
def eQ (q : Rat) : PV := .tup [.int q.num, .int (q.den : Int)]
theorem den0 (q : Rat) : (q.den : Int) ≠ 0 := by have := q.den_pos; omega
theorem den_p (q : Rat) : 0 < (q.den : Int) := by have := q.den_pos; omega
/-- lowest terms of a over b -/
theorem num_div {a b : Int} (hb : 0 < b) : (Rat.divInt a b).num = a.fdiv (Int.gcd a b) := by
  rw [Rat.num_divInt, Int.sign_eq_one_of_pos hb, Int.one_mul, Int.gcd_comm, Int.fdiv_eq_ediv_of_nonneg _ (Int.natCast_nonneg _)]
theorem den_div {a b : Int} (hb : 0 < b) : ((Rat.divInt a b).den : Int) = b.fdiv (Int.gcd a b) := by
  rw [Rat.den_divInt, if_neg (by omega), Int.gcd_comm, Int.fdiv_eq_ediv_of_nonneg _ (Int.natCast_nonneg _), Int.natCast_ediv, Int.natAbs_of_nonneg (by omega)]
theorem num_divN {a b : Int} (hb : b < 0) : (Rat.divInt a b).num = (-a).fdiv (Int.gcd a b) := by
  rw [Rat.num_divInt, Int.sign_eq_neg_one_of_neg hb, Int.gcd_comm, Int.fdiv_eq_ediv_of_nonneg _ (Int.natCast_nonneg _), Int.neg_one_mul]
theorem den_divN {a b : Int} (hb : b < 0) : ((Rat.divInt a b).den : Int) = (-b).fdiv (Int.gcd a b) := by
  rw [Rat.den_divInt, if_neg (by omega), Int.gcd_comm, Int.fdiv_eq_ediv_of_nonneg _ (Int.natCast_nonneg _), Int.natCast_ediv]
  congr 1
  omega
theorem le_iff {x y : Rat} : x.num * (y.den : Int) ≤ y.num * (x.den : Int) ↔ x ≤ y := (Rat.le_iff x y).symm
theorem lt_iff {x y : Rat} : x.num * (y.den : Int) < y.num * (x.den : Int) ↔ x < y := (Rat.lt_iff x y).symm
theorem self (x : Rat) : Rat.divInt x.num x.den = x := Rat.num_divInt_den x
theorem add_is (x y : Rat) : Rat.divInt (x.num * y.den + y.num * x.den) (x.den * y.den) = x + y := by
  rw [← Rat.divInt_add_divInt _ _ (den0 x) (den0 y), self, self]
theorem sub_is (x y : Rat) : Rat.divInt (x.num * y.den - y.num * x.den) (x.den * y.den) = x - y := by
  rw [← Rat.divInt_sub_divInt _ _ (den0 x) (den0 y), self, self]
theorem mul_is (x y : Rat) : Rat.divInt (x.num * y.num) (x.den * y.den) = x * y := by
  rw [← Rat.divInt_mul_divInt, self, self]
theorem div_is (x y : Rat) : Rat.divInt (x.num * y.den) (x.den * y.num) = x / y := by
  have h : y⁻¹ = Rat.divInt y.den y.num := by
    have := Rat.inv_divInt y.num y.den
    rw [self] at this
    exact this
  rw [Rat.div_def, h, ← Rat.divInt_mul_divInt, self]
theorem div_eq (a b : Int) : Rat.divInt a b = (a : Rat) / (b : Rat) := Rat.divInt_eq_div a b
theorem num0 {x : Rat} : x.num = 0 ↔ x = 0 := Rat.num_eq_zero
theorem num_nn {x : Rat} : 0 ≤ x.num ↔ 0 ≤ x := Rat.num_nonneg
theorem num_neg {x : Rat} : x.num < 0 ↔ x < 0 := by
  have := @num_nn x
  have h : x < 0 ↔ ¬ 0 ≤ x := by grind
  rw [h, ← this]; omega
theorem num_pos {x : Rat} : 0 < x.num ↔ 0 < x := by
  have a := @num_nn x
  have b := @num0 x
  have h : 0 < x ↔ 0 ≤ x ∧ ¬ x = 0 := by grind
  rw [h, ← a, ← b]; omega
/-- sizes -/
structure Bd (k : Nat) (q : Rat) : Prop where
  n : q.num.natAbs ≤ k
  d : q.den ≤ k
theorem Bd.mono {m n : Nat} {q : Rat} (h : Bd m q) (k : m ≤ n) : Bd n q := ⟨Nat.le_trans h.n k, Nat.le_trans h.d k⟩
theorem fdiv_abs {a : Int} {g : Nat} : (a.fdiv g).natAbs ≤ a.natAbs := by
  rw [Int.fdiv_eq_ediv_of_nonneg _ (Int.natCast_nonneg _)]
  rcases Nat.eq_zero_or_pos g with rfl | hg
  · simp
  · exact Int.natAbs_ediv_le_natAbs a g
theorem bd_div {a b : Int} {n : Nat} (hb : b ≠ 0) (h1 : a.natAbs ≤ n) (h2 : b.natAbs ≤ n) : Bd n (Rat.divInt a b) := by
  rcases Int.lt_or_gt_of_ne hb with h | h
  · refine ⟨?_, ?_⟩
    · rw [num_divN h]
      exact Nat.le_trans fdiv_abs (by omega)
    · have := fdiv_abs (a := -b) (g := Int.gcd a b)
      rw [← den_divN h] at this
      omega
  · refine ⟨?_, ?_⟩
    · rw [num_div h]
      exact Nat.le_trans fdiv_abs h1
    · have := fdiv_abs (a := b) (g := Int.gcd a b)
      rw [← den_div h] at this
      omega
theorem mul_abs {a b : Int} {m n : Nat} (h : a.natAbs ≤ m) (k : b.natAbs ≤ n) : (a * b).natAbs ≤ m * n := by
  rw [Int.natAbs_mul]
  exact Nat.mul_le_mul h k
theorem Bd.dn {n : Nat} {q : Rat} (h : Bd n q) : (q.den : Int).natAbs ≤ n := by have := h.d; omega
theorem Bd.add {m n : Nat} {x y : Rat} (hx : Bd m x) (hy : Bd n y) : Bd (2 * (m * n)) (x + y) := by
  rw [← add_is]
  have a := mul_abs hx.n hy.dn
  have b := mul_abs hy.n hx.dn
  have c := mul_abs hx.dn hy.dn
  rw [Nat.mul_comm n m] at b
  refine bd_div (Int.mul_ne_zero (den0 x) (den0 y)) ?_ (by omega)
  have := Int.natAbs_add_le (x.num * y.den) (y.num * x.den)
  omega
theorem Bd.sub {m n : Nat} {x y : Rat} (hx : Bd m x) (hy : Bd n y) : Bd (2 * (m * n)) (x - y) := by
  rw [← sub_is]
  have a := mul_abs hx.n hy.dn
  have b := mul_abs hy.n hx.dn
  have c := mul_abs hx.dn hy.dn
  rw [Nat.mul_comm n m] at b
  refine bd_div (Int.mul_ne_zero (den0 x) (den0 y)) ?_ (by omega)
  have := Int.natAbs_sub_le (x.num * y.den) (y.num * x.den)
  omega
theorem Bd.mul {m n : Nat} {x y : Rat} (hx : Bd m x) (hy : Bd n y) : Bd (m * n) (x * y) := by
  rw [← mul_is]
  exact bd_div (Int.mul_ne_zero (den0 x) (den0 y)) (mul_abs hx.n hy.n) (mul_abs hx.dn hy.dn)
theorem Bd.div {m n : Nat} {x y : Rat} (hx : Bd m x) (hy : Bd n y) (h0 : y ≠ 0) : Bd (m * n) (x / y) := by
  rw [← div_is]
  exact bd_div (Int.mul_ne_zero (den0 x) (fun h => h0 (num0.mp h))) (mul_abs hx.n hy.dn) (mul_abs hx.dn hy.n)
theorem Bd.neg {n : Nat} {x : Rat} (h : Bd n x) : Bd n (-x) := ⟨by rw [Rat.neg_num, Int.natAbs_neg]; exact h.n, by rw [Rat.neg_den]; exact h.d⟩
theorem abs_is (x : Rat) : x.abs = if x < 0 then -x else x := by
  unfold Rat.abs
  by_cases h : 0 ≤ x
  · have : ¬ x < 0 := by grind
    rw [if_neg this, if_pos h]
  · have : x < 0 := by grind
    rw [if_pos this, if_neg h]
theorem abs_num (x : Rat) : x.abs.num = if x.num < 0 then -x.num else x.num := by
  rw [abs_is]
  by_cases h : x < 0
  · rw [if_pos h, if_pos (num_neg.mpr h), Rat.neg_num]
  · rw [if_neg h, if_neg (fun q => h (num_neg.mp q))]
theorem abs_den (x : Rat) : x.abs.den = x.den := by
  rw [abs_is]
  split
  · rw [Rat.neg_den]
  · rfl
end Ra
end
section
set_option Elab.async false
set_option linter.all false
set_option maxRecDepth 100000
set_option maxHeartbeats 4000000
namespace Ra
open PySem PySem.Spec PyProof.Rows L2 Mi

/-! ### the mirror's small words, computed -/
theorem mul_sm {i j : Int} {S : Sto} (h1 : i.natAbs ≤ 2 ^ 4000) (h2 : j.natAbs ≤ 2 ^ 4000) : fMul false (.int i) (.int j) S = .ok (.int (i * j)) S := by
  have l : ∀ n : Nat, n ≤ 2 ^ 4000 → n.log2 ≤ 4000 := fun n h => by
    by_cases z : n = 0
    · rw [z]; decide
    · have := (Nat.log2_lt z (k := 4001)).mpr (Nat.lt_of_le_of_lt h (by decide +kernel))
      omega
  show (if i.natAbs.log2 + j.natAbs.log2 < 100000000 then Res.ok (PV.int (i * j)) S else .bad) = _
  rw [if_pos (by have := l _ h1; have := l _ h2; omega)]
theorem div_sm {i j : Int} {S : Sto} (h1 : 0 < j) (h2 : j.natAbs ≤ 2 ^ 4000) : fDiv (.int i) (.int j) S = .ok (.int (i.fdiv j)) S := by
  have z : j.natAbs ≠ 0 := by omega
  have := (Nat.log2_lt z (k := 4001)).mpr (Nat.lt_of_le_of_lt h2 (by decide +kernel))
  show (if j ≠ 0 ∧ j.natAbs.log2 < 9000 then Res.ok (PV.int (i.fdiv j)) S else .bad) = _
  rw [if_pos ⟨by omega, by omega⟩]
theorem mod_sm {i j : Int} {S : Sto} (h1 : 0 < j) : fMod (.int i) (.int j) S = .ok (.int (i.fmod j)) S := by
  show (if j ≠ 0 then Res.ok (PV.int (i.fmod j)) S else .bad) = _
  rw [if_pos (by omega)]
theorem w_eq (neg : Bool) {i j : Int} {S : Sto} : fEq neg (.int i) (.int j) S = .ok (.bl (if neg = true then !(i == j) else i == j)) S := rfl
theorem w_add {i j : Int} {S : Sto} : fAdd false (.int i) (.int j) S = .ok (.int (i + j)) S := rfl
theorem w_sub {i j : Int} {S : Sto} : fSub (.int i) (.int j) S = .ok (.int (i - j)) S := rfl
theorem w_abs {i : Int} {S : Sto} : fAbs [.int i] S = .ok (.int (if i < 0 then -i else i)) S := rfl
theorem w_int {i : Int} {S : Sto} : fInt [.int i] S = .ok (.int i) S := rfl
/-! comprehensions and all() over data of one kind -/
theorem lcP_map {α : Type} {f : PV → EnP → Option EnP} {de : EnP → Sto → Res PV} {ρ : EnP} (enc g : α → PV) (P : α → Prop) (h : ∀ x, P x → ∃ ρ1, f (enc x) ρ = some ρ1 ∧ ∀ S, de ρ1 S = .ok (g x) S) :
    ∀ (xs : List α) (acc : List PV) (S : Sto), (∀ x ∈ xs, P x) → acc.length + xs.length ≤ lim → lcP f dYes de ρ (xs.map enc) acc S = .ok (acc ++ xs.map g) S
  | [], acc, S, _, _ => by simp [lcP]
  | x :: xs, acc, S, hP, hl => by
    obtain ⟨ρ1, e1, e2⟩ := h x (hP x List.mem_cons_self)
    rw [List.length_cons] at hl
    have ih := lcP_map enc g P h xs (acc ++ [g x]) S (fun y hy => hP y (List.mem_cons_of_mem _ hy)) (by rw [List.length_append, List.length_singleton]; omega)
    rw [List.map_cons, lcP]
    simp only [e1, dYes, e2]
    rw [if_pos (by omega), ih]
    simp
theorem dLc_map {α : Type} {di : EnP → Sto → Res (List PV)} {f : PV → EnP → Option EnP} {de : EnP → Sto → Res PV} {ρ : EnP} {vs : List Nat} {S : Sto} {xs : List α} (enc g : α → PV) (P : α → Prop) (hi : di ρ S = .ok (xs.map enc) S) (h : ∀ x, P x → ∃ ρ1, f (enc x) (wipeP ρ vs) = some ρ1 ∧ ∀ S, de ρ1 S = .ok (g x) S)
    (hP : ∀ x ∈ xs, P x) (hl : xs.length ≤ lim) : dLc false di f dYes de vs ρ S = .ok (.nl (xs.map g)) S := by
  unfold dLc
  rw [hi, Res.bind_ok, lcP_map enc g P h xs [] S hP (by simpa using hl), Res.bind_ok]
  unfold mkLst
  rw [if_pos (by simpa using hl)]
  simp
theorem bls_map {α : Type} (p : α → Bool) : ∀ xs : List α, blsOf (xs.map fun x => PV.bl (p x)) = some (xs.map p)
  | [] => rfl
  | x :: xs => by simp [blsOf, bls_map p xs]
theorem all_map {α : Type} (p : α → Bool) (xs : List α) (S : Sto) : fAll [.nl (xs.map fun x => PV.bl (p x))] S = .ok (.bl (xs.all p)) S := by
  show (match blsOf (xs.map fun x => PV.bl (p x)) with | some bs => Res.ok (PV.bl (bs.all id)) S | none => .bad) = _
  rw [bls_map]
  simp [List.all_map]
theorem tuple_nl {xs : List PV} {S : Sto} (h : xs.length ≤ lim) : fTuple [.nl xs] S = .ok (.tup xs) S := by
  show (if xs.length ≤ lim then Res.ok (PV.tup xs) S else .bad) = _
  rw [if_pos h]
theorem len_tup {xs : List PV} {S : Sto} : fLen [.tup xs] S = .ok (.int xs.length) S := rfl
theorem zip_map {α β : Type} (e1 : α → PV) (e2 : β → PV) (xs : List α) (ys : List β) : zipP (xs.map e1) (ys.map e2) = (xs.zip ys).map fun p => PV.tup [e1 p.1, e2 p.2] := by
  unfold zipP
  rw [List.zip_map, List.map_map]
  rfl
theorem const_true {α : Type} (xs : List α) : (xs.map fun _ => PV.bl true) = xs.map fun x => PV.bl ((fun _ => true) x) := rfl
theorem all_true {α : Type} (xs : List α) (S : Sto) : fAll [.nl (xs.map fun _ => PV.bl true)] S = .ok (.bl true) S := by
  have h := all_map (fun _ : α => true) xs S
  rw [h]
  simp

theorem fmod_nat (a b : Nat) : ((a : Int)).fmod (b : Int) = ((a % b : Nat) : Int) := by
  rw [Int.fmod_eq_emod_of_nonneg _ (by omega)]
  exact (Int.natCast_emod a b).symm
theorem isi_tup (xs : List PV) (S : Sto) : fIsi [.tup xs, .ty "tuple"] S = .ok (.bl true) S := rfl
theorem w_neg {i : Int} {S : Sto} : fNeg (.int i) S = .ok (.int (-i)) S := rfl
theorem ix_0 {a b : PV} {S : Sto} : fIx (.tup [a, b]) (.int 0) S = .ok a S := rfl
theorem ix_1 {a b : PV} {S : Sto} : fIx (.tup [a, b]) (.int 1) S = .ok b S := rfl
theorem ix_q0 {q : Rat} {S : Sto} : fIx (eQ q) (.int 0) S = .ok (.int q.num) S := rfl
theorem ix_q1 {q : Rat} {S : Sto} : fIx (eQ q) (.int 1) S = .ok (.int q.den) S := rfl
def big : Int := 10 ^ 300
/-- the program's fractions -/
structure Ok (q : Rat) : Prop where
  n : q.num.natAbs < 10 ^ 300
  d : q.den < 10 ^ 300
theorem Bd.ok {k : Nat} {q : Rat} (h : Bd k q) (l : k < 10 ^ 300) : Ok q := ⟨Nat.lt_of_le_of_lt h.n l, Nat.lt_of_le_of_lt h.d l⟩
theorem Ok.bd {q : Rat} (h : Ok q) : Bd (10 ^ 300) q := ⟨Nat.le_of_lt h.n, Nat.le_of_lt h.d⟩
theorem le4000 {n : Nat} (h : n ≤ 10 ^ 601) : n ≤ 2 ^ 4000 := Nat.le_trans h (by decide +kernel)
end Ra
end
section
set_option Elab.async false
set_option linter.all false
set_option maxRecDepth 100000
set_option maxHeartbeats 1000000
/-! powers -/
namespace Ra
open PySem PySem.Spec PyProof.Rows L2 Mi
def pw (b : Nat) (e : Int) : Rat := if 0 ≤ e then ((b ^ e.natAbs : Nat) : Rat) else Rat.divInt 1 ((b ^ e.natAbs : Nat) : Int)
theorem pw_nn {b : Nat} {e : Int} (h : 0 ≤ e) : (pw b e).num = ((b ^ e.natAbs : Nat) : Int) ∧ (pw b e).den = 1 := by
  unfold pw
  rw [if_pos h]
  exact ⟨Rat.num_natCast _, Rat.den_natCast _⟩
theorem pw_ng {b : Nat} {e : Int} (hb : 0 < b) (h : ¬ 0 ≤ e) : (pw b e).num = 1 ∧ ((pw b e).den : Int) = ((b ^ e.natAbs : Nat) : Int) := by
  unfold pw
  rw [if_neg h]
  have p : (0 : Int) < ((b ^ e.natAbs : Nat) : Int) := by have := Nat.pow_pos (n := e.natAbs) hb; omega
  have g : Int.gcd 1 ((b ^ e.natAbs : Nat) : Int) = 1 := Int.one_gcd
  refine ⟨?_, ?_⟩
  · rw [num_div p, g]; rfl
  · rw [den_div p, g]
    exact Int.fdiv_one _
end Ra
end
section
set_option Elab.async false
set_option linter.all false
set_option maxRecDepth 100000
set_option maxHeartbeats 1000000
namespace Ra
open PySem PySem.Spec PyProof.Rows L2 Mi
theorem pw_pos {b : Nat} (hb : 0 < b) (e : Int) : 0 < pw b e := by
  rw [← num_pos]
  by_cases h : 0 ≤ e
  · rw [(pw_nn h).1]
    have := Nat.pow_pos (n := e.natAbs) hb
    omega
  · rw [(pw_ng hb h).1]; decide
theorem nat_ne {n : Nat} (h : 0 < n) : (n : Rat) ≠ 0 := fun q => by
  have := congrArg Rat.num q
  rw [Rat.num_natCast] at this
  have z : (0 : Rat).num = 0 := rfl
  rw [z] at this
  omega
theorem pw_succ {b : Nat} (hb : 0 < b) (e : Int) : pw b (e + 1) = pw b e * (b : Rat) := by
  unfold pw
  by_cases h : 0 ≤ e
  · rw [if_pos h, if_pos (by omega)]
    have : (e + 1).natAbs = e.natAbs + 1 := by omega
    rw [this, Nat.pow_succ, Rat.natCast_mul]
  · rw [if_neg h]
    have p : b ^ e.natAbs = b ^ (e + 1).natAbs * b := by
      have : e.natAbs = (e + 1).natAbs + 1 := by omega
      rw [this, Nat.pow_succ]
    have b0 : (b : Rat) ≠ 0 := nat_ne hb
    have d0 : ((b ^ (e + 1).natAbs : Nat) : Rat) ≠ 0 := nat_ne (Nat.pow_pos hb)
    by_cases h1 : 0 ≤ e + 1
    · have : e = -1 := by omega
      subst this
      rw [if_pos h1, div_eq, p, Rat.intCast_natCast]
      have q : (-1 + 1 : Int).natAbs = 0 := rfl
      rw [q, Nat.pow_zero, Nat.one_mul]
      have o : ((1 : Int) : Rat) = 1 := rfl
      have o2 : ((1 : Nat) : Rat) = 1 := rfl
      rw [o, o2]
      generalize (b : Rat) = r at b0
      clear d0 p
      grind
    · rw [if_neg h1, div_eq, div_eq, p, Rat.intCast_natCast, Rat.intCast_natCast, Rat.natCast_mul]
      have o : ((1 : Int) : Rat) = 1 := rfl
      rw [o]
      generalize ((b ^ (e + 1).natAbs : Nat) : Rat) = d at d0
      generalize (b : Rat) = r at b0
      clear p
      grind
end Ra
end
section
set_option Elab.async false
set_option linter.all false
set_option maxRecDepth 100000
set_option maxHeartbeats 1000000
namespace Ra
open PySem PySem.Spec PyProof.Rows L2 Mi
theorem nat_le {a b : Nat} : ((a : Nat) : Rat) ≤ (b : Rat) ↔ a ≤ b := Rat.natCast_le_natCast
theorem pw_le1 {b : Nat} (hb : 1 ≤ b) (e : Int) : pw b e ≤ pw b (e + 1) := by
  rw [pw_succ (by omega)]
  have p := pw_pos (b := b) (by omega) e
  have h : (1 : Rat) ≤ (b : Rat) := by
    have := nat_le.mpr hb
    exact this
  have := Rat.mul_le_mul_of_nonneg_left h (Rat.le_of_lt p)
  rw [Rat.mul_one] at this
  exact this
theorem pw_mono {b : Nat} (hb : 1 ≤ b) {e f : Int} (h : e ≤ f) : pw b e ≤ pw b f := by
  obtain ⟨n, rfl⟩ := Int.le.dest h
  clear h
  induction n with
  | zero => simp
  | succ n ih =>
    have := pw_le1 hb (e + n)
    have q : e + ((n + 1 : Nat) : Int) = e + n + 1 := by omega
    rw [q]
    exact Rat.le_trans ih this
end Ra
end
section
set_option Elab.async false
set_option linter.all false
set_option maxRecDepth 100000
set_option maxHeartbeats 1000000
namespace Ra
open PySem PySem.Spec PyProof.Rows L2 Mi
/-- the least e from lo on with |x| < b ^ (k + e) -/
def IsEx (b : Nat) (k lo : Int) (x : Rat) (e : Int) : Prop := lo ≤ e ∧ x.abs < pw b (k + e) ∧ (e = lo ∨ pw b (k + (e - 1)) ≤ x.abs)
theorem IsEx.uniq {b : Nat} {k lo : Int} {x : Rat} {e f : Int} (hb : 1 ≤ b) (h : IsEx b k lo x e) (h' : IsEx b k lo x f) : e = f := by
  obtain ⟨a1, a2, a3⟩ := h
  obtain ⟨b1, b2, b3⟩ := h'
  rcases Int.lt_trichotomy e f with q | q | q
  · rcases b3 with b3 | b3
    · omega
    · have := pw_mono hb (show k + e ≤ k + (f - 1) by omega)
      grind
  · exact q
  · rcases a3 with a3 | a3
    · omega
    · have := pw_mono hb (show k + f ≤ k + (e - 1) by omega)
      grind
end Ra
end
section
set_option Elab.async false
set_option linter.all false
set_option maxRecDepth 100000
set_option maxHeartbeats 1000000
namespace Ra
open PySem PySem.Spec PyProof.Rows L2 Mi
theorem num_is (x : Rat) : (x.num : Rat) = x * (x.den : Rat) := by
  have h := self x
  rw [div_eq, Rat.intCast_natCast] at h
  have d := nat_ne x.den_pos
  generalize (x.num : Rat) = n at h ⊢
  generalize (x.den : Rat) = m at h d ⊢
  rw [← h]
  grind
/-- a pair T over M told against x -/
theorem pair_lt {x p : Rat} {T M : Nat} (hM : 0 < M) (h : (T : Rat) = p * (M : Rat)) : x.num * (M : Int) < (T : Int) * (x.den : Int) ↔ x < p := by
  have e1 : ((x.num * (M : Int) : Int) : Rat) = x * ((M * x.den : Nat) : Rat) := by
    rw [Rat.intCast_mul, num_is, Rat.intCast_natCast, Rat.natCast_mul]
    grind
  have e2 : (((T : Int) * (x.den : Int) : Int) : Rat) = p * ((M * x.den : Nat) : Rat) := by
    rw [Rat.intCast_mul, Rat.intCast_natCast, Rat.intCast_natCast, h, Rat.natCast_mul]
    grind
  have c : (0 : Rat) < ((M * x.den : Nat) : Rat) := by
    have : 0 < M * x.den := Nat.mul_pos hM x.den_pos
    have := (Rat.natCast_lt_natCast (a := 0) (b := M * x.den)).mpr this
    exact this
  rw [← Rat.intCast_lt_intCast, e1, e2]
  exact Rat.mul_lt_mul_right c
end Ra
end
section
set_option Elab.async false
set_option linter.all false
set_option maxRecDepth 100000
set_option maxHeartbeats 1000000
namespace Ra
open PySem PySem.Spec PyProof.Rows L2 Mi
theorem abs_nn (x : Rat) : 0 ≤ x.abs := by rw [abs_is]; split <;> grind
theorem Ok.abs {x : Rat} (h : Ok x) : Ok x.abs := ⟨by rw [abs_num]; have := h.n; split <;> omega, by rw [abs_den]; exact h.d⟩
theorem Ok.lt {x : Rat} (h : Ok x) : x < ((10 ^ 300 : Nat) : Rat) := by
  have e := num_is x
  have d : ((1 : Nat) : Rat) ≤ (x.den : Rat) := nat_le.mpr x.den_pos
  have n : (x.num : Rat) < ((10 ^ 300 : Nat) : Rat) := by
    rw [← Rat.intCast_natCast, Rat.intCast_lt_intCast]
    have := h.n
    omega
  have o : ((1 : Nat) : Rat) = 1 := rfl
  rw [o] at d
  by_cases q : x < ((10 ^ 300 : Nat) : Rat)
  · exact q
  · have q' : ((10 ^ 300 : Nat) : Rat) ≤ x := by grind
    have p : (0 : Rat) ≤ ((10 ^ 300 : Nat) : Rat) := nat_le.mpr (Nat.zero_le _)
    have r : x * 1 ≤ x * (x.den : Rat) := Rat.mul_le_mul_of_nonneg_left d (Rat.le_trans p q')
    rw [e] at n
    grind
theorem pw_big {b : Nat} (hb : 2 ≤ b) {e : Int} (h : 1000 ≤ e) {x : Rat} (hx : Ok x) : x < pw b e := by
  have m := pw_mono (b := b) (by omega) h
  have l : ((10 ^ 300 : Nat) : Rat) ≤ pw b 1000 := by
    unfold pw
    rw [if_pos (by decide)]
    refine nat_le.mpr (Nat.le_trans (m := 2 ^ 1000) (by decide +kernel) (Nat.pow_le_pow_left hb 1000))
  have := hx.lt
  grind
end Ra
end
section
set_option Elab.async false
set_option linter.all false
set_option maxRecDepth 100000
set_option maxHeartbeats 1000000
/-! holds over the rationals: the plain law -/
namespace Ra
theorem abs_is' (x : Rat) : x.abs = if x < 0 then -x else x := by
  unfold Rat.abs
  grind
inductive Wrd where | neg | size | add | sub | mul | div | least | most
deriving DecidableEq
def rmin (x y : Rat) : Rat := if x ≤ y then x else y
def rmax (x y : Rat) : Rat := if x ≤ y then y else x
structure Hd where
  lo : Rat
  hi : Rat
  off : Rat
structure Hd.Is (h : Hd) : Prop where
  le : h.lo ≤ h.hi
  nn : 0 ≤ h.off
def mx (a b : Rat) : Rat := rmax a.abs b.abs
def ls (a b : Rat) : Rat := if a ≤ 0 ∧ 0 ≤ b then 0 else rmin a.abs b.abs
def Wrd.ex : Wrd → Rat → Rat → Rat
  | .neg, x, _ => -x
  | .size, x, _ => x.abs
  | .add, x, y => x + y
  | .sub, x, y => x - y
  | .mul, x, y => x * y
  | .div, x, y => x / y
  | .least, x, y => rmin x y
  | .most, x, y => rmax x y
def min4 (a b c d : Rat) : Rat := rmin (rmin (rmin a b) c) d
def max4 (a b c d : Rat) : Rat := rmax (rmax (rmax a b) c) d
def eLo : Wrd → Hd → Hd → Rat
  | .neg, h, _ => -h.hi
  | .size, h, _ => ls h.lo h.hi
  | .add, h, g => h.lo + g.lo
  | .sub, h, g => h.lo - g.hi
  | .mul, h, g => min4 (h.lo * g.lo) (h.lo * g.hi) (h.hi * g.lo) (h.hi * g.hi)
  | .div, h, g => min4 (h.lo / g.lo) (h.lo / g.hi) (h.hi / g.lo) (h.hi / g.hi)
  | .least, h, g => rmin h.lo g.lo
  | .most, h, g => rmax h.lo g.lo
def eHi : Wrd → Hd → Hd → Rat
  | .neg, h, _ => -h.lo
  | .size, h, _ => mx h.lo h.hi
  | .add, h, g => h.hi + g.hi
  | .sub, h, g => h.hi - g.lo
  | .mul, h, g => max4 (h.lo * g.lo) (h.lo * g.hi) (h.hi * g.lo) (h.hi * g.hi)
  | .div, h, g => max4 (h.lo / g.lo) (h.lo / g.hi) (h.hi / g.lo) (h.hi / g.hi)
  | .least, h, g => rmin h.hi g.hi
  | .most, h, g => rmax h.hi g.hi
def spr : Wrd → Hd → Hd → Rat
  | .mul, h, g => mx h.lo h.hi * g.off + mx g.lo g.hi * h.off + h.off * g.off
  | .div, h, g => (h.off + mx h.lo h.hi * g.off / ls g.lo g.hi) / (ls g.lo g.hi - g.off)
  | _, h, g => h.off + g.off
structure In (h : Hd) (x : Rat) : Prop where
  lo : h.lo ≤ x
  hi : x ≤ h.hi
theorem lin {a b x : Rat} (y : Rat) (h1 : a ≤ x) (h2 : x ≤ b) : (a * y ≤ x * y ∧ x * y ≤ b * y) ∨ (b * y ≤ x * y ∧ x * y ≤ a * y) := by
  by_cases q : 0 ≤ y
  · exact .inl ⟨Rat.mul_le_mul_of_nonneg_right h1 q, Rat.mul_le_mul_of_nonneg_right h2 q⟩
  · right
    have q' : 0 ≤ -y := by grind
    have a1 := Rat.mul_le_mul_of_nonneg_right h1 q'
    have a2 := Rat.mul_le_mul_of_nonneg_right h2 q'
    constructor <;> grind
theorem box {a b c d x y : Rat} (h1 : a ≤ x) (h2 : x ≤ b) (h3 : c ≤ y) (h4 : y ≤ d) : min4 (a * c) (a * d) (b * c) (b * d) ≤ x * y ∧ x * y ≤ max4 (a * c) (a * d) (b * c) (b * d) := by
  have l1 := lin y h1 h2
  have l2 := lin a h3 h4
  have l3 := lin b h3 h4
  rw [Rat.mul_comm c a, Rat.mul_comm y a, Rat.mul_comm d a] at l2
  rw [Rat.mul_comm c b, Rat.mul_comm y b, Rat.mul_comm d b] at l3
  generalize a * c = p1 at *
  generalize a * d = p2 at *
  generalize b * c = p3 at *
  generalize b * d = p4 at *
  generalize a * y = p5 at *
  generalize b * y = p6 at *
  generalize x * y = p7 at *
  simp only [min4, max4, rmin, rmax]
  grind
theorem inv_le {a b : Rat} (h : 0 < a) (k : a ≤ b) : b⁻¹ ≤ a⁻¹ := by
  have hb : 0 < b := by grind
  have e1 : b⁻¹ = a * (a⁻¹ * b⁻¹) := by grind
  have e2 : a⁻¹ = b * (a⁻¹ * b⁻¹) := by grind
  have n : 0 ≤ a⁻¹ * b⁻¹ := Rat.le_of_lt (Rat.mul_pos (Rat.inv_pos.mpr h) (Rat.inv_pos.mpr hb))
  rw [e1, e2]
  have := Rat.mul_le_mul_of_nonneg_right k n
  grind
theorem dbox {a b c d x y : Rat} (h1 : a ≤ x) (h2 : x ≤ b) (h3 : c ≤ y) (h4 : y ≤ d) (n : ¬ (c ≤ 0 ∧ 0 ≤ d)) : min4 (a / c) (a / d) (b / c) (b / d) ≤ x / y ∧ x / y ≤ max4 (a / c) (a / d) (b / c) (b / d) := by
  have i : d⁻¹ ≤ y⁻¹ ∧ y⁻¹ ≤ c⁻¹ := by
    by_cases q : 0 < c
    · exact ⟨inv_le (by grind) h4, inv_le q h3⟩
    · have q2 : 0 < -d := by grind
      have a1 := inv_le q2 (show -d ≤ -y by grind)
      have a2 := inv_le (show 0 < -y by grind) (show -y ≤ -c by grind)
      have e (t : Rat) : (-t)⁻¹ = -(t⁻¹) := by grind
      rw [e, e] at a1 a2
      constructor <;> grind
  have B := box h1 h2 i.1 i.2
  simp only [Rat.div_def]
  generalize a * c⁻¹ = p1 at *
  generalize a * d⁻¹ = p2 at *
  generalize b * c⁻¹ = p3 at *
  generalize b * d⁻¹ = p4 at *
  generalize x * y⁻¹ = p7 at *
  simp only [min4, max4, rmin, rmax] at *
  grind
/-- what is exact lies within -/
theorem ex_in {w : Wrd} {h g : Hd} {x y : Rat} (hx : In h x) (hy : In g y) (n : w = .div → ¬ (g.lo ≤ 0 ∧ 0 ≤ g.hi)) : eLo w h g ≤ w.ex x y ∧ w.ex x y ≤ eHi w h g := by
  obtain ⟨a1, a2⟩ := hx
  obtain ⟨b1, b2⟩ := hy
  cases w with
  | mul => exact box a1 a2 b1 b2
  | div => exact dbox a1 a2 b1 b2 (n rfl)
  | _ => simp only [eLo, eHi, Wrd.ex, ls, mx, rmin, rmax, abs_is'] <;> grind
theorem abs_le {x o : Rat} : x.abs ≤ o ↔ -o ≤ x ∧ x ≤ o := by
  rw [abs_is']
  grind
theorem abs_mul (x y : Rat) : (x * y).abs = x.abs * y.abs := by
  have p := @Rat.mul_nonneg x y
  have p2 := @Rat.mul_nonneg (-x) y
  have p3 := @Rat.mul_nonneg x (-y)
  have p4 := @Rat.mul_nonneg (-x) (-y)
  simp only [abs_is']
  by_cases q : x < 0 <;> by_cases r : y < 0 <;> simp [q, r] <;> grind
theorem abs_nn' (x : Rat) : 0 ≤ x.abs := by rw [abs_is']; grind
theorem mul_mono {a b c d : Rat} (h1 : a ≤ b) (h2 : c ≤ d) (h3 : 0 ≤ a) (h4 : 0 ≤ c) : a * c ≤ b * d :=
  Rat.le_trans (Rat.mul_le_mul_of_nonneg_right h1 h4) (Rat.mul_le_mul_of_nonneg_left h2 (Rat.le_trans h3 h1))
theorem pb {u v o p : Rat} (h : u.abs ≤ o) (k : v.abs ≤ p) : (u * v).abs ≤ o * p := by
  rw [abs_mul]
  exact mul_mono h k (abs_nn' _) (abs_nn' _)
theorem mx_ge {h : Hd} {x : Rat} (k : In h x) : x.abs ≤ mx h.lo h.hi := by
  obtain ⟨k1, k2⟩ := k
  simp only [mx, rmax, abs_is']
  grind
theorem ls_le {h : Hd} {x : Rat} (k : In h x) : ls h.lo h.hi ≤ x.abs := by
  obtain ⟨k1, k2⟩ := k
  simp only [ls, rmin, abs_is']
  grind
theorem div_nn {a b : Rat} (h : 0 ≤ a) (k : 0 < b) : 0 ≤ a / b := by
  rw [Rat.div_def]
  exact Rat.mul_nonneg h (Rat.le_of_lt (Rat.inv_pos.mpr k))
theorem div_mono {a b c d : Rat} (h1 : 0 ≤ a) (h2 : a ≤ b) (h3 : 0 < d) (h4 : d ≤ c) : a / c ≤ b / d := by
  rw [Rat.div_def, Rat.div_def]
  exact mul_mono h2 (inv_le h3 h4) h1 (Rat.le_of_lt (Rat.inv_pos.mpr (by grind)))
theorem abs_div {x y : Rat} (h : y ≠ 0) : (x / y).abs = x.abs / y.abs := by
  have e : (x / y) * y = x := by grind
  have := abs_mul (x / y) y
  rw [e] at this
  have n : y.abs ≠ 0 := by rw [abs_is']; grind
  rw [this]
  grind
theorem abs_add (x y : Rat) : (x + y).abs ≤ x.abs + y.abs := by simp only [abs_is']; grind
/-- the error of a word -/
theorem err {w : Wrd} {h g : Hd} {x y x' y' : Rat} (hx : In h x) (hy : In g y) (ex : (x' - x).abs ≤ h.off) (ey : (y' - y).abs ≤ g.off) (n : w = .div → g.off < ls g.lo g.hi) :
    (w.ex x' y' - w.ex x y).abs ≤ (match w with | .neg | .size => h.off | .least | .most => rmax h.off g.off | _ => spr w h g) := by
  cases w with
  | mul =>
    simp only [Wrd.ex, spr]
    have e : x' * y' - x * y = x * (y' - y) + y * (x' - x) + (x' - x) * (y' - y) := by grind
    have b1 := pb (mx_ge hx) ey
    have b2 := pb (mx_ge hy) ex
    have b3 := pb ex ey
    rw [e]
    have c1 := abs_add (x * (y' - y) + y * (x' - x)) ((x' - x) * (y' - y))
    have c2 := abs_add (x * (y' - y)) (y * (x' - x))
    grind
  | div =>
    simp only [Wrd.ex, spr]
    have L := n rfl
    have ly := ls_le hy
    have o0 : 0 ≤ g.off := Rat.le_trans (abs_nn' _) ey
    have L0 : 0 < ls g.lo g.hi := by grind
    have ya : 0 < y.abs := by grind
    have y0 : y ≠ 0 := by rw [abs_is'] at ya; grind
    have y1 : ls g.lo g.hi - g.off ≤ y'.abs := by
      have : y.abs ≤ y'.abs + (y' - y).abs := by simp only [abs_is']; grind
      grind
    have y2 : y' ≠ 0 := by
      intro q
      rw [q] at y1
      have : (0 : Rat).abs = 0 := rfl
      grind
    have e : x' / y' - x / y = ((x' - x) - (x * (y' - y)) / y) / y' := by grind
    rw [e, abs_div y2]
    refine div_mono (abs_nn' _) ?_ (by grind) y1
    have c1 := abs_add (x' - x) (-((x * (y' - y)) / y))
    have c2 : (-((x * (y' - y)) / y)).abs = ((x * (y' - y)) / y).abs := by simp only [abs_is']; grind
    rw [abs_div y0] at c2
    have c3 : (x * (y' - y)).abs / y.abs ≤ mx h.lo h.hi * g.off / ls g.lo g.hi := div_mono (abs_nn' _) (pb (mx_ge hx) ey) L0 ly
    have c4 : x' - x - (x * (y' - y)) / y = x' - x + (-((x * (y' - y)) / y)) := by grind
    rw [c4]
    grind
  | _ =>
    simp only [Wrd.ex, spr, rmin, rmax]
    rw [abs_le] at *
    try simp only [abs_is']
    grind
end Ra
end
section
set_option Elab.async false
set_option linter.all false
set_option maxRecDepth 100000
set_option maxHeartbeats 1000000
namespace Ra
structure Cov (a b : Hd) : Prop where
  lo : a.lo ≤ b.lo
  hi : b.hi ≤ a.hi
  off : b.off ≤ a.off
theorem mx_mono {a b : Hd} (c : Cov a b) (h : b.lo ≤ b.hi) : mx b.lo b.hi ≤ mx a.lo a.hi := by
  obtain ⟨c1, c2, c3⟩ := c
  simp only [mx, rmax, abs_is']
  grind
theorem ls_mono {a b : Hd} (c : Cov a b) (h : b.lo ≤ b.hi) : ls a.lo a.hi ≤ ls b.lo b.hi := by
  obtain ⟨c1, c2, c3⟩ := c
  simp only [ls, rmin, abs_is']
  grind
theorem mx_nn (a b : Rat) : 0 ≤ mx a b := by simp only [mx, rmax, abs_is']; grind
theorem ls_nn (a b : Rat) : 0 ≤ ls a b := by simp only [ls, rmin, abs_is']; grind
theorem ls_0 {a b : Rat} (h : a ≤ 0 ∧ 0 ≤ b) : ls a b = 0 := if_pos h
theorem le_min4 {t a b c d : Rat} (h1 : t ≤ a) (h2 : t ≤ b) (h3 : t ≤ c) (h4 : t ≤ d) : t ≤ min4 a b c d := by simp only [min4, rmin]; grind
theorem max4_le {t a b c d : Rat} (h1 : a ≤ t) (h2 : b ≤ t) (h3 : c ≤ t) (h4 : d ≤ t) : max4 a b c d ≤ t := by simp only [max4, rmax]; grind
theorem ends_mono {w : Wrd} {h g h' g' : Hd} (c : Cov h' h) (k : Cov g' g) (ih : h.lo ≤ h.hi) (ig : g.lo ≤ g.hi) (n : w = .div → ¬ (g'.lo ≤ 0 ∧ 0 ≤ g'.hi)) :
    eLo w h' g' ≤ eLo w h g ∧ eHi w h g ≤ eHi w h' g' := by
  have i1 : In h' h.lo := ⟨c.lo, by have := c.hi; grind⟩
  have i2 : In h' h.hi := ⟨by have := c.lo; grind, c.hi⟩
  have j1 : In g' g.lo := ⟨k.lo, by have := k.hi; grind⟩
  have j2 : In g' g.hi := ⟨by have := k.lo; grind, k.hi⟩
  have q1 := ex_in (w := w) i1 j1 n
  have q2 := ex_in (w := w) i1 j2 n
  have q3 := ex_in (w := w) i2 j1 n
  have q4 := ex_in (w := w) i2 j2 n
  cases w with
  | mul => exact ⟨le_min4 q1.1 q2.1 q3.1 q4.1, max4_le q1.2 q2.2 q3.2 q4.2⟩
  | div => exact ⟨le_min4 q1.1 q2.1 q3.1 q4.1, max4_le q1.2 q2.2 q3.2 q4.2⟩
  | size => exact ⟨ls_mono c ih, mx_mono c ih⟩
  | neg | add | sub =>
    obtain ⟨c1, c2, c3⟩ := c
    obtain ⟨k1, k2, k3⟩ := k
    simp only [eLo, eHi]
    grind
  | least | most =>
    obtain ⟨c1, c2, c3⟩ := c
    obtain ⟨k1, k2, k3⟩ := k
    simp only [eLo, eHi, rmin, rmax]
    grind
theorem spr_mono {w : Wrd} {h g h' g' : Hd} (c : Cov h' h) (k : Cov g' g) (ih : h.Is) (ig : g.Is) (n : w = .div → g'.off < ls g'.lo g'.hi) : spr w h g ≤ spr w h' g' := by
  have m1 := mx_mono c ih.le
  have m2 := mx_mono k ig.le
  have l2 := ls_mono k ig.le
  have n1 := mx_nn h.lo h.hi
  have n2 := mx_nn g.lo g.hi
  have o1 := ih.nn
  have o2 := ig.nn
  have c3 := c.off
  have k3 := k.off
  cases w with
  | mul =>
    simp only [spr]
    have a1 := mul_mono m1 k3 n1 o2
    have a2 := mul_mono m2 c3 n2 o1
    have a3 := mul_mono c3 k3 o1 o2
    grind
  | div =>
    have L := n rfl
    simp only [spr]
    have a1 := mul_mono m1 k3 n1 o2
    have L1 : 0 < ls g'.lo g'.hi := by grind
    have a2 := div_mono (Rat.mul_nonneg n1 o2) a1 L1 l2
    have L2 : 0 < ls g.lo g.hi := by grind
    have a3 := div_nn (Rat.mul_nonneg n1 o2) L2
    refine div_mono (by grind) (by grind) (by grind) (by grind)
  | _ => simp only [spr]; grind
theorem spr_nn {w : Wrd} {h g : Hd} (ih : h.Is) (ig : g.Is) (n : w = .div → g.off < ls g.lo g.hi) : 0 ≤ spr w h g := by
  have n1 := mx_nn h.lo h.hi
  have n2 := mx_nn g.lo g.hi
  have o1 := ih.nn
  have o2 := ig.nn
  cases w with
  | mul =>
    simp only [spr]
    have a1 := Rat.mul_nonneg n1 o2
    have a2 := Rat.mul_nonneg n2 o1
    have a3 := Rat.mul_nonneg o1 o2
    grind
  | div =>
    have L := n rfl
    simp only [spr]
    have L2 : 0 < ls g.lo g.hi := by grind
    have a3 := div_nn (Rat.mul_nonneg n1 o2) L2
    exact div_nn (by grind) (by grind)
  | _ => simp only [spr]; grind
theorem ends_le {w : Wrd} {h g : Hd} (ih : h.Is) (ig : g.Is) (n : w = .div → g.off < ls g.lo g.hi) : eLo w h g ≤ eHi w h g := by
  have n' : w = .div → ¬ (g.lo ≤ 0 ∧ 0 ≤ g.hi) := fun q z => by
    have := n q
    rw [ls_0 z] at this
    have := ig.nn
    grind
  have := ex_in (w := w) (h := h) (g := g) (x := h.lo) (y := g.lo) ⟨by grind, ih.le⟩ ⟨by grind, ig.le⟩ n'
  exact Rat.le_trans this.1 this.2
theorem mx_sub {a b a' b' : Rat} (h1 : a' ≤ a) (h2 : b ≤ b') (h : a ≤ b) : mx a b ≤ mx a' b' := by
  simp only [mx, rmax, abs_is']
  grind
end Ra
end
section
set_option Elab.async false
set_option linter.all false
set_option maxRecDepth 100000
set_option maxHeartbeats 1000000
/-! numbers of a format, rounding, holds: the plain law -/
namespace Ra
open PySem PySem.Spec PyProof.Rows L2 Mi
structure Fm where
  b : Nat
  k : Int
  lo : Int
  hi : Int
def digs (b : Nat) : Int := if b < 3 then 4 else if b < 5 then 7 else if b < 11 then 10 else 13
def eF (f : Fm) : PV := .tup [.int f.b, .int f.k, .int f.lo, .int f.hi]
/-- small enough for all that follows -/
structure FmOk (f : Fm) : Prop where
  b0 : 2 ≤ f.b
  b1 : f.b ≤ 16
  k0 : 1 ≤ f.k
  k1 : f.k ≤ 60
  l0 : -400 ≤ f.lo
  l1 : f.lo ≤ 400
  h0 : -400 ≤ f.hi
  h1 : f.hi ≤ 400
  lh : f.lo ≤ f.hi
  sh : f.b ^ (f.k.natAbs + max f.lo.natAbs f.hi.natAbs) ≤ 10 ^ 140
  sd : (f.k + (max f.lo.natAbs f.hi.natAbs : Nat)) * digs f.b ≤ 1400
theorem pw_add {b : Nat} (hb : 0 < b) (e : Int) (n : Nat) : pw b (e + n) = pw b e * ((b ^ n : Nat) : Rat) := by
  induction n with
  | zero =>
    have o : ((1 : Nat) : Rat) = 1 := rfl
    rw [Nat.pow_zero, o, Int.natCast_zero, Int.add_zero, Rat.mul_one]
  | succ n ih =>
    have : e + ((n + 1 : Nat) : Int) = (e + n) + 1 := by omega
    rw [this, pw_succ hb, ih, Nat.pow_succ, Rat.natCast_mul, Rat.mul_assoc]
theorem pw_sub {b : Nat} (hb : 0 < b) {e e' : Int} (h : e' ≤ e) : pw b e = pw b e' * ((b ^ (e - e').toNat : Nat) : Rat) := by
  rw [← pw_add hb]
  congr 1
  omega
theorem ex_exists {b : Nat} {k lo : Int} {x : Rat} : ∀ (n : Nat) (e : Int), lo ≤ e → (e = lo ∨ pw b (k + (e - 1)) ≤ x.abs) → (∃ E, x.abs < pw b (k + E) ∧ e ≤ E ∧ (E - e).toNat < n) → ∃ e', IsEx b k lo x e' := by
  intro n
  induction n with
  | zero => intro e _ _ ⟨E, _, _, h⟩; omega
  | succ n ih =>
    intro e h1 h2 ⟨E, h3, h4, h5⟩
    by_cases q : x.abs < pw b (k + e)
    · exact ⟨e, h1, q, h2⟩
    · have ne : e ≠ E := fun z => q (z ▸ h3)
      refine ih (e + 1) (by omega) (.inr ?_) ⟨E, h3, by omega, by omega⟩
      rw [Int.add_sub_cancel]
      grind
open Classical in
noncomputable def exO (f : Fm) (x : Rat) : Int := if h : ∃ e, IsEx f.b f.k f.lo x e then h.choose else 0
theorem exO_of {f : Fm} {x : Rat} {E : Int} (h : f.lo ≤ E) (l : x.abs < pw f.b (f.k + E)) : IsEx f.b f.k f.lo x (exO f x) := by
  have : ∃ e, IsEx f.b f.k f.lo x e := ex_exists ((E - f.lo).toNat + 1) f.lo (by omega) (.inl rfl) ⟨E, l, h, by omega⟩
  unfold exO
  rw [dif_pos this]
  exact this.choose_spec
theorem exO_is {f : Fm} {x : Rat} (hf : FmOk f) (hx : Ok x) : IsEx f.b f.k f.lo x (exO f x) :=
  exO_of (E := 1000 - f.k) (by have := hf.l1; have := hf.k1; omega) (pw_big hf.b0 (by omega) hx.abs)
theorem exO_eq {f : Fm} {x : Rat} {e : Int} (hf : FmOk f) (h : IsEx f.b f.k f.lo x e) : exO f x = e :=
  IsEx.uniq (by have := hf.b0; omega) (exO_of h.1 h.2.1) h
theorem IsEx.le {b : Nat} {k lo : Int} {x : Rat} {e E : Int} (hb : 1 ≤ b) (h : IsEx b k lo x e) (hE : lo ≤ E) (l : x.abs < pw b (k + E)) : e ≤ E := by
  obtain ⟨a1, a2, a3⟩ := h
  rcases a3 with a3 | a3
  · omega
  · by_cases q : e ≤ E
    · exact q
    · have := pw_mono hb (show k + E ≤ k + (e - 1) by omega)
      grind
noncomputable def gapR (f : Fm) (x : Rat) : Rat := pw f.b (exO f x)
def mostR (f : Fm) : Rat := ((f.b ^ f.k.toNat - 1 : Nat) : Rat) * pw f.b f.hi
theorem gap_pos {f : Fm} (hf : FmOk f) (x : Rat) : 0 < gapR f x := pw_pos (by have := hf.b0; omega) _
theorem gap_mono {f : Fm} {x y : Rat} (hf : FmOk f) (hy : Ok y) (l : x.abs ≤ y.abs) : gapR f x ≤ gapR f y := by
  have hb : 1 ≤ f.b := by have := hf.b0; omega
  have h := exO_is hf hy
  have h2 : x.abs < pw f.b (f.k + exO f y) := by have := h.2.1; grind
  exact pw_mono hb (IsEx.le hb (exO_of h.1 h2) h.1 h2)
theorem most_nn (f : Fm) (hf : FmOk f) : 0 ≤ mostR f :=
  Rat.mul_nonneg (nat_le.mpr (Nat.zero_le _)) (Rat.le_of_lt (pw_pos (by have := hf.b0; omega) _))
theorem most_lt {f : Fm} (hf : FmOk f) : mostR f < pw f.b (f.k + f.hi) := by
  have hb : 0 < f.b := by have := hf.b0; omega
  have e : f.k + f.hi = f.hi + (f.k.toNat : Int) := by have := hf.k0; omega
  rw [e, pw_add hb, mostR, Rat.mul_comm]
  have p := pw_pos hb f.hi
  refine Rat.mul_lt_mul_of_pos_left ?_ p
  rw [Rat.natCast_lt_natCast]
  have := Nat.pow_pos (n := f.k.toNat) hb
  omega
inductive Wy | near | down | up | zero
deriving DecidableEq
def nearI (q : Rat) : Int := if 2 * (q - (q.floor : Rat)) = 1 then (if q.floor % 2 = 0 then q.floor else q.floor + 1) else (if 2 * (q - (q.floor : Rat)) < 1 then q.floor else q.floor + 1)
def rnd : Wy → Rat → Int
  | .near, q => nearI q
  | .down, q => q.floor
  | .up, q => -((-q).floor)
  | .zero, q => if 0 ≤ q then q.floor else -((-q).floor)
theorem cast_add1 (n : Int) : ((n + 1 : Int) : Rat) = (n : Rat) + 1 := by
  rw [Rat.intCast_add]
  rfl
theorem rnd_near (q : Rat) : ((rnd .near q : Int) - q : Rat).abs ≤ 1 / 2 := by
  have h1 := Rat.floor_le q
  have h2 := Rat.lt_floor_add_one q
  rw [cast_add1] at h2
  rw [abs_le]
  simp only [rnd, nearI]
  have c := cast_add1 q.floor
  split <;> split <;> (try rw [c]) <;> constructor <;> grind
theorem rnd_off (w : Wy) (q : Rat) : ((rnd w q : Int) - q : Rat).abs ≤ 1 := by
  have h1 := Rat.floor_le q
  have h2 := Rat.lt_floor_add_one q
  have h3 := Rat.floor_le (-q)
  have h4 := Rat.lt_floor_add_one (-q)
  rw [cast_add1] at h2 h4
  have n := Rat.intCast_neg (-q).floor
  cases w with
  | near => have := rnd_near q; grind
  | down => rw [abs_le]; simp only [rnd]; constructor <;> grind
  | up => rw [abs_le]; simp only [rnd]; rw [n]; constructor <;> grind
  | zero =>
    rw [abs_le]; simp only [rnd]
    split
    · constructor <;> grind
    · rw [n]; constructor <;> grind
theorem rnd_le {w : Wy} {q : Rat} {N : Int} (h : q ≤ (N : Rat)) : rnd w q ≤ N := by
  have f1 : q.floor ≤ N := by
    have := Rat.floor_monotone h
    rwa [Rat.floor_intCast] at this
  have f2 : -N ≤ (-q).floor := by rw [Rat.le_floor_iff, Rat.intCast_neg]; grind
  have f3 : q.floor = N → q = N := fun e => by
    have := Rat.floor_le q
    rw [e] at this
    grind
  have z : 2 * ((N : Rat) - N) = 0 := by grind
  cases w with
  | near =>
    simp only [rnd, nearI]
    by_cases e : q.floor = N
    · rw [e, f3 e, z]
      rw [if_neg (by decide), if_pos (by decide)]
      omega
    · split <;> split <;> omega
  | down => exact f1
  | up => simp only [rnd]; omega
  | zero => simp only [rnd]; split <;> omega
theorem ge_rnd {w : Wy} {q : Rat} {N : Int} (h : (N : Rat) ≤ q) : N ≤ rnd w q := by
  have f1 : N ≤ q.floor := Rat.le_floor_iff.mpr h
  have f2 : (-q).floor ≤ -N := by
    have := Rat.floor_monotone (show -q ≤ ((-N : Int) : Rat) by rw [Rat.intCast_neg]; grind)
    rwa [Rat.floor_intCast] at this
  cases w with
  | near => simp only [rnd, nearI]; split <;> split <;> omega
  | down => exact f1
  | up => simp only [rnd]; omega
  | zero => simp only [rnd]; split <;> omega
theorem rnd_int (w : Wy) (n : Int) : rnd w (n : Rat) = n := Int.le_antisymm (rnd_le Rat.le_refl) (ge_rnd Rat.le_refl)
structure IsNum (f : Fm) (r : Rat) : Prop where
  le : r.abs ≤ mostR f
  is : ∃ m : Int, r = (m : Rat) * gapR f r
open Classical in
noncomputable def roundR (f : Fm) (w : Wy) (z : Rat) : Option Rat :=
  if ((rnd w (z / gapR f z) : Int) * gapR f z : Rat).abs ≤ mostR f then some ((rnd w (z / gapR f z) : Int) * gapR f z) else none
theorem num_of {f : Fm} {r : Rat} {m E : Int} (hf : FmOk f) (h : r = (m : Rat) * pw f.b E) (hE : f.lo ≤ E) (l : r.abs < pw f.b (f.k + E)) : ∃ m : Int, r = (m : Rat) * gapR f r := by
  have hb : 0 < f.b := by have := hf.b0; omega
  have hi := exO_of hE l
  have le := IsEx.le hb hi hE l
  refine ⟨m * ((f.b ^ (E - exO f r).toNat : Nat) : Int), ?_⟩
  unfold gapR
  rw [Rat.intCast_mul, Rat.intCast_natCast, Rat.mul_assoc, Rat.mul_comm (((f.b ^ (E - exO f r).toNat : Nat) : Rat)), ← pw_sub hb le]
  exact h
end Ra
end
section
set_option Elab.async false
set_option linter.all false
set_option maxRecDepth 100000
set_option maxHeartbeats 1000000
namespace Ra
open PySem PySem.Spec PyProof.Rows L2 Mi
theorem abs_neg (x : Rat) : (-x).abs = x.abs := by simp only [abs_is']; grind
theorem int_le {a b : Int} : (a : Rat) ≤ (b : Rat) ↔ a ≤ b := Rat.intCast_le_intCast
theorem abs_int_mul {m : Int} {g : Rat} {N : Nat} (hg : 0 < g) (h1 : -(N : Int) ≤ m) (h2 : m ≤ N) : ((m : Rat) * g).abs ≤ (N : Rat) * g := by
  rw [abs_le]
  have a1 := Rat.mul_le_mul_of_nonneg_right (int_le.mpr h1) (Rat.le_of_lt hg)
  have a2 := Rat.mul_le_mul_of_nonneg_right (int_le.mpr h2) (Rat.le_of_lt hg)
  rw [Rat.intCast_neg, Rat.intCast_natCast] at a1
  rw [Rat.intCast_natCast] at a2
  constructor
  · grind
  · exact a2
/-- whole numbers of gaps that a bound leaves -/
theorem rnd_abs {w : Wy} {z g : Rat} {N : Nat} (hg : 0 < g) (h : z.abs ≤ (N : Rat) * g) : -(N : Int) ≤ rnd w (z / g) ∧ rnd w (z / g) ≤ (N : Int) := by
  rw [abs_le] at h
  have g0 : g ≠ 0 := by grind
  have i := Rat.le_of_lt (Rat.inv_pos.mpr hg)
  have e : z / g = z * g⁻¹ := Rat.div_def _ _
  have e2 : ((N : Rat) * g) * g⁻¹ = (N : Rat) := by grind
  constructor
  · refine ge_rnd ?_
    rw [Rat.intCast_neg, Rat.intCast_natCast, e]
    have := Rat.mul_le_mul_of_nonneg_right h.1 i
    grind
  · refine rnd_le ?_
    rw [Rat.intCast_natCast, e]
    have := Rat.mul_le_mul_of_nonneg_right h.2 i
    grind
theorem most_gap {f : Fm} {E : Int} (hf : FmOk f) (h : E ≤ f.hi) : mostR f = (((f.b ^ f.k.toNat - 1) * f.b ^ (f.hi - E).toNat : Nat) : Rat) * pw f.b E := by
  have hb : 0 < f.b := by have := hf.b0; omega
  rw [mostR, pw_sub hb h, Rat.natCast_mul]
  grind
theorem pw_k {f : Fm} (hf : FmOk f) (E : Int) : pw f.b (f.k + E) = ((f.b ^ f.k.toNat : Nat) : Rat) * pw f.b E := by
  have hb : 0 < f.b := by have := hf.b0; omega
  have e : f.k + E = E + (f.k.toNat : Int) := by have := hf.k0; omega
  rw [e, pw_add hb, Rat.mul_comm]
theorem ex_hi {f : Fm} {z : Rat} {e : Int} (hf : FmOk f) (h : IsEx f.b f.k f.lo z e) (l : z.abs ≤ mostR f) : e ≤ f.hi := by
  have hb : 0 < f.b := by have := hf.b0; omega
  exact IsEx.le hb h hf.lh (by have := most_lt hf; grind)
/-- the number of gaps, as a number of the format -/
theorem gaps_num {f : Fm} {r : Rat} {m E : Int} (hf : FmOk f) (h : r = (m : Rat) * pw f.b E) (hE : f.lo ≤ E) (b1 : -((f.b ^ f.k.toNat : Nat) : Int) ≤ m) (b2 : m ≤ ((f.b ^ f.k.toNat : Nat) : Int)) : ∃ m : Int, r = (m : Rat) * gapR f r := by
  have hb : 0 < f.b := by have := hf.b0; omega
  have p := pw_pos hb E
  by_cases q : -((f.b ^ f.k.toNat : Nat) : Int) < m ∧ m < ((f.b ^ f.k.toNat : Nat) : Int)
  · refine num_of hf h hE ?_
    have c := abs_int_mul (m := m) (N := f.b ^ f.k.toNat - 1) p (by omega) (by omega)
    rw [← h] at c
    rw [pw_k hf]
    have c2 : ((f.b ^ f.k.toNat - 1 : Nat) : Rat) * pw f.b E < ((f.b ^ f.k.toNat : Nat) : Rat) * pw f.b E := by
      rw [Rat.mul_comm, Rat.mul_comm (((f.b ^ f.k.toNat : Nat) : Rat))]
      refine Rat.mul_lt_mul_of_pos_left ?_ p
      rw [Rat.natCast_lt_natCast]
      have := Nat.pow_pos (n := f.k.toNat) hb
      omega
    grind
  · have k1 : f.k.toNat = (f.k.toNat - 1) + 1 := by have := hf.k0; omega
    have eP : ((f.b ^ f.k.toNat : Nat) : Rat) * pw f.b E = ((f.b ^ (f.k.toNat - 1) : Nat) : Rat) * pw f.b (E + 1) := by
      conv => lhs; rw [k1]
      rw [Nat.pow_succ, Rat.natCast_mul, pw_succ hb]
      grind
    have p1 := pw_pos hb (E + 1)
    have lt : ((f.b ^ (f.k.toNat - 1) : Nat) : Rat) * pw f.b (E + 1) < pw f.b (f.k + (E + 1)) := by
      rw [pw_k hf, Rat.mul_comm, Rat.mul_comm (((f.b ^ f.k.toNat : Nat) : Rat))]
      refine Rat.mul_lt_mul_of_pos_left ?_ p1
      rw [Rat.natCast_lt_natCast]
      exact Nat.pow_lt_pow_right (by have := hf.b0; omega) (by omega)
    rcases (show m = ((f.b ^ f.k.toNat : Nat) : Int) ∨ m = -((f.b ^ f.k.toNat : Nat) : Int) by omega) with e | e
    · have h' : r = (((f.b ^ (f.k.toNat - 1) : Nat) : Int) : Rat) * pw f.b (E + 1) := by
        rw [h, e, Rat.intCast_natCast, Rat.intCast_natCast, eP]
      refine num_of hf h' (by omega) ?_
      have c := abs_int_mul (m := ((f.b ^ (f.k.toNat - 1) : Nat) : Int)) (N := f.b ^ (f.k.toNat - 1)) p1 (by omega) (by omega)
      rw [← h'] at c
      grind
    · have h' : r = ((-((f.b ^ (f.k.toNat - 1) : Nat) : Int) : Int) : Rat) * pw f.b (E + 1) := by
        rw [h, e, Rat.intCast_neg, Rat.intCast_neg, Rat.intCast_natCast, Rat.intCast_natCast, Rat.neg_mul, Rat.neg_mul, eP]
      refine num_of hf h' (by omega) ?_
      have c := abs_int_mul (m := -((f.b ^ (f.k.toNat - 1) : Nat) : Int)) (N := f.b ^ (f.k.toNat - 1)) p1 (by omega) (by omega)
      rw [← h'] at c
      grind
theorem round_is {f : Fm} {w : Wy} {z : Rat} (hf : FmOk f) (hz : Ok z) : ∃ m : Int, (rnd w (z / gapR f z) : Int) * gapR f z = (m : Rat) * gapR f ((rnd w (z / gapR f z) : Int) * gapR f z) := by
  have h := exO_is hf hz
  have hb : 0 < f.b := by have := hf.b0; omega
  have l := h.2.1
  rw [pw_k hf] at l
  have b := rnd_abs (w := w) (gap_pos hf z) (Rat.le_of_lt l)
  exact gaps_num hf rfl h.1 b.1 b.2
theorem round_num {f : Fm} {w : Wy} {z r : Rat} (hf : FmOk f) (hz : Ok z) (h : roundR f w z = some r) : IsNum f r := by
  unfold roundR at h
  split at h
  · injection h with h
    subst h
    exact ⟨by assumption, round_is hf hz⟩
  · cases h
theorem div_off {f : Fm} {z : Rat} (hf : FmOk f) (n : Int) : ((n : Rat) * gapR f z - z) = ((n : Rat) - z / gapR f z) * gapR f z := by
  have := gap_pos hf z
  grind
noncomputable def offR (f : Fm) (w : Wy) (x : Rat) : Rat := if w = .near then gapR f x * (1 / 2) else gapR f x
theorem round_fact {f : Fm} {w : Wy} {z : Rat} (hf : FmOk f) (hz : Ok z) (l : z.abs ≤ mostR f) : ∃ r, roundR f w z = some r ∧ IsNum f r ∧ (r - z).abs ≤ offR f w z := by
  have h := exO_is hf hz
  have g0 := gap_pos hf z
  have eh := ex_hi hf h l
  have mg := most_gap hf eh
  have c : ((rnd w (z / gapR f z) : Int) * gapR f z : Rat).abs ≤ mostR f := by
    have l' := l
    rw [mg] at l'
    have b := rnd_abs (w := w) g0 l'
    have := abs_int_mul g0 b.1 b.2
    rw [mg]
    exact this
  have e : roundR f w z = some ((rnd w (z / gapR f z) : Int) * gapR f z) := if_pos c
  refine ⟨_, e, round_num hf hz e, ?_⟩
  rw [div_off hf, abs_mul]
  have ga : (gapR f z).abs = gapR f z := by rw [abs_is']; grind
  rw [ga]
  unfold offR
  split
  · rename_i q
    subst q
    have := Rat.mul_le_mul_of_nonneg_right (rnd_near (z / gapR f z)) (Rat.le_of_lt g0)
    grind
  · have := Rat.mul_le_mul_of_nonneg_right (rnd_off w (z / gapR f z)) (Rat.le_of_lt g0)
    grind
theorem off_mono {f : Fm} {w : Wy} {x y : Rat} (hf : FmOk f) (hy : Ok y) (l : x.abs ≤ y.abs) : offR f w x ≤ offR f w y := by
  have := gap_mono hf hy l
  unfold offR
  split <;> grind
theorem off_nn {f : Fm} {w : Wy} {x : Rat} (hf : FmOk f) : 0 ≤ offR f w x := by
  have := gap_pos hf x
  unfold offR
  split <;> grind
theorem num_self {f : Fm} {w : Wy} {x : Rat} (hf : FmOk f) (h : IsNum f x) : roundR f w x = some x := by
  obtain ⟨l, m, e⟩ := h
  have g0 := gap_pos hf x
  have q : x / gapR f x = (m : Rat) := by
    have n : gapR f x ≠ 0 := by grind
    have e1 : x = (m : Rat) * gapR f x := e
    generalize gapR f x = g at e1 n
    rw [e1]
    grind
  unfold roundR
  rw [q, rnd_int, ← e, if_pos l]
theorem gap_abs {f : Fm} {x y : Rat} (h : x.abs = y.abs) : gapR f x = gapR f y := by
  have : IsEx f.b f.k f.lo x = IsEx f.b f.k f.lo y := by funext e; unfold IsEx; rw [h]
  unfold gapR exO
  rw [this]
theorem IsNum.neg {f : Fm} {x : Rat} (h : IsNum f x) : IsNum f (-x) := by
  obtain ⟨l, m, e⟩ := h
  refine ⟨by rw [abs_neg]; exact l, -m, ?_⟩
  rw [gap_abs (abs_neg x), Rat.intCast_neg, Rat.neg_mul, ← e]
theorem IsNum.abs {f : Fm} {x : Rat} (h : IsNum f x) : IsNum f x.abs := by
  rw [abs_is']
  split
  · exact h.neg
  · exact h
end Ra
end
section
set_option Elab.async false
set_option linter.all false
set_option maxRecDepth 100000
set_option maxHeartbeats 1000000
namespace Ra
open PySem PySem.Spec PyProof.Rows L2 Mi
def mstR (w : Wrd) (h g : Hd) : Rat := mx (eLo w h g) (eHi w h g) + spr w h g
open Classical in
noncomputable def holdR (f : Fm) (y : Wy) (w : Wrd) (h g : Hd) : Option Hd :=
  if w = .div ∧ ls g.lo g.hi ≤ g.off then none else
  match w with
  | .neg | .size => some ⟨eLo w h g, eHi w h g, h.off⟩
  | .least | .most => some ⟨eLo w h g, eHi w h g, rmax h.off g.off⟩
  | _ => if mstR w h g ≤ mostR f then some ⟨eLo w h g, eHi w h g, spr w h g + offR f y (mstR w h g)⟩ else none
theorem hold_div {f : Fm} {y : Wy} {w : Wrd} {h g H : Hd} (e : holdR f y w h g = some H) : w = .div → g.off < ls g.lo g.hi := fun q => by
  unfold holdR at e
  split at e
  · cases e
  · rename_i n
    have : ¬ ls g.lo g.hi ≤ g.off := fun z => n ⟨q, z⟩
    grind
theorem div_n {w : Wrd} {g : Hd} (ig : g.Is) (n : w = .div → g.off < ls g.lo g.hi) : w = .div → ¬ (g.lo ≤ 0 ∧ 0 ≤ g.hi) := fun q z => by
  have := n q
  rw [ls_0 z] at this
  have := ig.nn
  grind
def Wrd.big : Wrd → Bool
  | .add | .sub | .mul | .div => true
  | _ => false
open Classical in
theorem holdR_big {f : Fm} {y : Wy} {w : Wrd} {h g : Hd} (hb : w.big = true) (n : ¬(w = .div ∧ ls g.lo g.hi ≤ g.off)) : holdR f y w h g = if mstR w h g ≤ mostR f then some ⟨eLo w h g, eHi w h g, spr w h g + offR f y (mstR w h g)⟩ else none := by
  unfold holdR
  rw [if_neg n]
  cases w <;> first | (cases hb; done) | skip
  all_goals dsimp only
  all_goals split <;> rfl
/-- what a hold by a word is -/
theorem hold_is {f : Fm} {y : Wy} {w : Wrd} {h g H : Hd} (e : holdR f y w h g = some H) :
    H.lo = eLo w h g ∧ H.hi = eHi w h g ∧ H.off = (match w with | .neg | .size => h.off | .least | .most => rmax h.off g.off | _ => spr w h g + offR f y (mstR w h g)) ∧ (w.big = true → mstR w h g ≤ mostR f) := by
  unfold holdR at e
  split at e
  · cases e
  · cases w with
    | neg | size | least | most => cases e; exact ⟨rfl, rfl, rfl, fun z => by cases z⟩
    | add | sub | mul | div =>
      dsimp only at e
      split at e
      · cases e; exact ⟨rfl, rfl, rfl, fun _ => by assumption⟩
      · cases e
theorem hold_ok {f : Fm} {y : Wy} {w : Wrd} {h g H : Hd} (hf : FmOk f) (e : holdR f y w h g = some H) (ih : h.Is) (ig : g.Is) : H.Is := by
  have n := hold_div e
  have el := ends_le ih ig n
  obtain ⟨e1, e2, e3, _⟩ := hold_is e
  refine ⟨by rw [e1, e2]; exact el, ?_⟩
  rw [e3]
  have a := ih.nn
  have b := ig.nn
  have s := spr_nn ih ig n
  have o := off_nn (w := y) (x := mstR w h g) hf
  cases w <;> simp only [rmax] <;> grind
theorem big_fact {f : Fm} {y : Wy} {w : Wrd} {h g H : Hd} {u v o : Rat} (hf : FmOk f) (e1 : H.lo = eLo w h g) (e2 : H.hi = eHi w h g) (e3 : o = spr w h g + offR f y (mstR w h g)) (m : mstR w h g ≤ mostR f) (s : 0 ≤ spr w h g)
    (inn : eLo w h g ≤ u ∧ u ≤ eHi w h g) (er : (v - u).abs ≤ spr w h g) (ok : Ok v) (okm : Ok (mstR w h g)) : ∃ r, roundR f y v = some r ∧ IsNum f r ∧ (r - u).abs ≤ o := by
  have q := mx_ge (h := H) ⟨by rw [e1]; exact inn.1, by rw [e2]; exact inn.2⟩
  rw [e1, e2] at q
  have l : v.abs ≤ mstR w h g := by
    unfold mstR
    have := abs_add (v - u) u
    have e : v - u + u = v := by grind
    rw [e] at this
    grind
  obtain ⟨r, r1, r2, r3⟩ := round_fact (w := y) hf ok (Rat.le_trans l m)
  refine ⟨r, r1, r2, ?_⟩
  have a : (mstR w h g).abs = mstR w h g := by
    rw [abs_is']
    have := abs_nn' v
    grind
  have o := off_mono (w := y) (x := v) hf okm (by rw [a]; exact l)
  have := abs_add (r - v) (v - u)
  have e : r - v + (v - u) = r - u := by grind
  rw [e] at this
  grind
/-- THE FACT of rules -/
theorem hold_fact {f : Fm} {y : Wy} {w : Wrd} {h g H : Hd} {x z x' z' : Rat} (hf : FmOk f) (e : holdR f y w h g = some H) (ih : h.Is) (ig : g.Is) (hx : In h x) (hz : In g z)
    (ex : (x' - x).abs ≤ h.off) (ez : (z' - z).abs ≤ g.off) (nx : IsNum f x') (nz : IsNum f z') (ok : Ok (w.ex x' z')) (okm : Ok (mstR w h g)) :
    In H (w.ex x z) ∧ ∃ r, roundR f y (w.ex x' z') = some r ∧ IsNum f r ∧ (r - w.ex x z).abs ≤ H.off := by
  have n := hold_div e
  have inn := ex_in (w := w) hx hz (div_n ig n)
  have er := err (w := w) hx hz ex ez n
  obtain ⟨e1, e2, e3, e4⟩ := hold_is e
  refine ⟨⟨by rw [e1]; exact inn.1, by rw [e2]; exact inn.2⟩, ?_⟩
  rw [e3]
  cases w with
  | neg => exact ⟨_, num_self hf nx.neg, nx.neg, er⟩
  | size => exact ⟨_, num_self hf nx.abs, nx.abs, er⟩
  | least =>
    have q : IsNum f (Wrd.ex .least x' z') := by simp only [Wrd.ex, rmin]; split <;> assumption
    exact ⟨_, num_self hf q, q, er⟩
  | most =>
    have q : IsNum f (Wrd.ex .most x' z') := by simp only [Wrd.ex, rmax]; split <;> assumption
    exact ⟨_, num_self hf q, q, er⟩
  | add => exact big_fact hf e1 e2 rfl (e4 rfl) (spr_nn ih ig n) inn er ok okm
  | sub => exact big_fact hf e1 e2 rfl (e4 rfl) (spr_nn ih ig n) inn er ok okm
  | mul => exact big_fact hf e1 e2 rfl (e4 rfl) (spr_nn ih ig n) inn er ok okm
  | div => exact big_fact hf e1 e2 rfl (e4 rfl) (spr_nn ih ig n) inn er ok okm
theorem hold_mono {f : Fm} {y : Wy} {w : Wrd} {h g h' g' H H' : Hd} (hf : FmOk f) (e : holdR f y w h g = some H) (e' : holdR f y w h' g' = some H') (ih : h.Is) (ig : g.Is) (ig' : g'.Is) (c : Cov h' h) (k : Cov g' g) (okm : Ok (mstR w h' g')) : Cov H' H := by
  have n := hold_div e
  have n' := hold_div e'
  have em := ends_mono (w := w) c k ih.le ig.le (div_n ig' n')
  have sm := spr_mono c k ih ig n'
  have el := ends_le ih ig n
  have s := spr_nn ih ig n
  obtain ⟨e1, e2, e3, _⟩ := hold_is e
  obtain ⟨d1, d2, d3, _⟩ := hold_is e'
  refine ⟨by rw [e1, d1]; exact em.1, by rw [e2, d2]; exact em.2, ?_⟩
  rw [e3, d3]
  have mm : mstR w h g ≤ mstR w h' g' := by
    unfold mstR
    have := mx_sub em.1 em.2 el
    grind
  have m0 : 0 ≤ mstR w h g := by
    unfold mstR
    have := mx_nn (eLo w h g) (eHi w h g)
    grind
  have o := off_mono (w := y) (x := mstR w h g) hf okm (by rw [abs_is', abs_is']; grind)
  have c3 := c.off
  have k3 := k.off
  cases w <;> simp only [rmax] <;> grind
end Ra
end
section
set_option Elab.async false
set_option linter.all false
set_option maxRecDepth 100000
set_option maxHeartbeats 1000000
namespace Ra
open PySem PySem.Spec PyProof.Rows L2 Mi
@[simp] theorem sq_near_near (S : Sto) : fEq false (.str "near") (.str "near") S = .ok (.bl true) S := by kernel_rfl
@[simp] theorem sq_near_down (S : Sto) : fEq false (.str "near") (.str "down") S = .ok (.bl false) S := by kernel_rfl
@[simp] theorem sq_near_up (S : Sto) : fEq false (.str "near") (.str "up") S = .ok (.bl false) S := by kernel_rfl
@[simp] theorem sq_near_zero (S : Sto) : fEq false (.str "near") (.str "zero") S = .ok (.bl false) S := by kernel_rfl
@[simp] theorem sq_down_near (S : Sto) : fEq false (.str "down") (.str "near") S = .ok (.bl false) S := by kernel_rfl
@[simp] theorem sq_down_down (S : Sto) : fEq false (.str "down") (.str "down") S = .ok (.bl true) S := by kernel_rfl
@[simp] theorem sq_down_up (S : Sto) : fEq false (.str "down") (.str "up") S = .ok (.bl false) S := by kernel_rfl
@[simp] theorem sq_down_zero (S : Sto) : fEq false (.str "down") (.str "zero") S = .ok (.bl false) S := by kernel_rfl
@[simp] theorem sq_up_near (S : Sto) : fEq false (.str "up") (.str "near") S = .ok (.bl false) S := by kernel_rfl
@[simp] theorem sq_up_down (S : Sto) : fEq false (.str "up") (.str "down") S = .ok (.bl false) S := by kernel_rfl
@[simp] theorem sq_up_up (S : Sto) : fEq false (.str "up") (.str "up") S = .ok (.bl true) S := by kernel_rfl
@[simp] theorem sq_up_zero (S : Sto) : fEq false (.str "up") (.str "zero") S = .ok (.bl false) S := by kernel_rfl
@[simp] theorem sq_zero_near (S : Sto) : fEq false (.str "zero") (.str "near") S = .ok (.bl false) S := by kernel_rfl
@[simp] theorem sq_zero_down (S : Sto) : fEq false (.str "zero") (.str "down") S = .ok (.bl false) S := by kernel_rfl
@[simp] theorem sq_zero_up (S : Sto) : fEq false (.str "zero") (.str "up") S = .ok (.bl false) S := by kernel_rfl
@[simp] theorem sq_zero_zero (S : Sto) : fEq false (.str "zero") (.str "zero") S = .ok (.bl true) S := by kernel_rfl
@[simp] theorem sq_neg_neg (S : Sto) : fEq false (.str "neg") (.str "neg") S = .ok (.bl true) S := by kernel_rfl
@[simp] theorem sq_neg_size (S : Sto) : fEq false (.str "neg") (.str "size") S = .ok (.bl false) S := by kernel_rfl
@[simp] theorem sq_neg_add (S : Sto) : fEq false (.str "neg") (.str "add") S = .ok (.bl false) S := by kernel_rfl
@[simp] theorem sq_neg_sub (S : Sto) : fEq false (.str "neg") (.str "sub") S = .ok (.bl false) S := by kernel_rfl
@[simp] theorem sq_neg_mul (S : Sto) : fEq false (.str "neg") (.str "mul") S = .ok (.bl false) S := by kernel_rfl
@[simp] theorem sq_neg_div (S : Sto) : fEq false (.str "neg") (.str "div") S = .ok (.bl false) S := by kernel_rfl
@[simp] theorem sq_neg_least (S : Sto) : fEq false (.str "neg") (.str "least") S = .ok (.bl false) S := by kernel_rfl
@[simp] theorem sq_neg_most (S : Sto) : fEq false (.str "neg") (.str "most") S = .ok (.bl false) S := by kernel_rfl
@[simp] theorem sq_size_neg (S : Sto) : fEq false (.str "size") (.str "neg") S = .ok (.bl false) S := by kernel_rfl
@[simp] theorem sq_size_size (S : Sto) : fEq false (.str "size") (.str "size") S = .ok (.bl true) S := by kernel_rfl
@[simp] theorem sq_size_add (S : Sto) : fEq false (.str "size") (.str "add") S = .ok (.bl false) S := by kernel_rfl
@[simp] theorem sq_size_sub (S : Sto) : fEq false (.str "size") (.str "sub") S = .ok (.bl false) S := by kernel_rfl
@[simp] theorem sq_size_mul (S : Sto) : fEq false (.str "size") (.str "mul") S = .ok (.bl false) S := by kernel_rfl
@[simp] theorem sq_size_div (S : Sto) : fEq false (.str "size") (.str "div") S = .ok (.bl false) S := by kernel_rfl
@[simp] theorem sq_size_least (S : Sto) : fEq false (.str "size") (.str "least") S = .ok (.bl false) S := by kernel_rfl
@[simp] theorem sq_size_most (S : Sto) : fEq false (.str "size") (.str "most") S = .ok (.bl false) S := by kernel_rfl
@[simp] theorem sq_add_neg (S : Sto) : fEq false (.str "add") (.str "neg") S = .ok (.bl false) S := by kernel_rfl
@[simp] theorem sq_add_size (S : Sto) : fEq false (.str "add") (.str "size") S = .ok (.bl false) S := by kernel_rfl
@[simp] theorem sq_add_add (S : Sto) : fEq false (.str "add") (.str "add") S = .ok (.bl true) S := by kernel_rfl
@[simp] theorem sq_add_sub (S : Sto) : fEq false (.str "add") (.str "sub") S = .ok (.bl false) S := by kernel_rfl
@[simp] theorem sq_add_mul (S : Sto) : fEq false (.str "add") (.str "mul") S = .ok (.bl false) S := by kernel_rfl
@[simp] theorem sq_add_div (S : Sto) : fEq false (.str "add") (.str "div") S = .ok (.bl false) S := by kernel_rfl
@[simp] theorem sq_add_least (S : Sto) : fEq false (.str "add") (.str "least") S = .ok (.bl false) S := by kernel_rfl
@[simp] theorem sq_add_most (S : Sto) : fEq false (.str "add") (.str "most") S = .ok (.bl false) S := by kernel_rfl
@[simp] theorem sq_sub_neg (S : Sto) : fEq false (.str "sub") (.str "neg") S = .ok (.bl false) S := by kernel_rfl
@[simp] theorem sq_sub_size (S : Sto) : fEq false (.str "sub") (.str "size") S = .ok (.bl false) S := by kernel_rfl
@[simp] theorem sq_sub_add (S : Sto) : fEq false (.str "sub") (.str "add") S = .ok (.bl false) S := by kernel_rfl
@[simp] theorem sq_sub_sub (S : Sto) : fEq false (.str "sub") (.str "sub") S = .ok (.bl true) S := by kernel_rfl
@[simp] theorem sq_sub_mul (S : Sto) : fEq false (.str "sub") (.str "mul") S = .ok (.bl false) S := by kernel_rfl
@[simp] theorem sq_sub_div (S : Sto) : fEq false (.str "sub") (.str "div") S = .ok (.bl false) S := by kernel_rfl
@[simp] theorem sq_sub_least (S : Sto) : fEq false (.str "sub") (.str "least") S = .ok (.bl false) S := by kernel_rfl
@[simp] theorem sq_sub_most (S : Sto) : fEq false (.str "sub") (.str "most") S = .ok (.bl false) S := by kernel_rfl
@[simp] theorem sq_mul_neg (S : Sto) : fEq false (.str "mul") (.str "neg") S = .ok (.bl false) S := by kernel_rfl
@[simp] theorem sq_mul_size (S : Sto) : fEq false (.str "mul") (.str "size") S = .ok (.bl false) S := by kernel_rfl
@[simp] theorem sq_mul_add (S : Sto) : fEq false (.str "mul") (.str "add") S = .ok (.bl false) S := by kernel_rfl
@[simp] theorem sq_mul_sub (S : Sto) : fEq false (.str "mul") (.str "sub") S = .ok (.bl false) S := by kernel_rfl
@[simp] theorem sq_mul_mul (S : Sto) : fEq false (.str "mul") (.str "mul") S = .ok (.bl true) S := by kernel_rfl
@[simp] theorem sq_mul_div (S : Sto) : fEq false (.str "mul") (.str "div") S = .ok (.bl false) S := by kernel_rfl
@[simp] theorem sq_mul_least (S : Sto) : fEq false (.str "mul") (.str "least") S = .ok (.bl false) S := by kernel_rfl
@[simp] theorem sq_mul_most (S : Sto) : fEq false (.str "mul") (.str "most") S = .ok (.bl false) S := by kernel_rfl
@[simp] theorem sq_div_neg (S : Sto) : fEq false (.str "div") (.str "neg") S = .ok (.bl false) S := by kernel_rfl
@[simp] theorem sq_div_size (S : Sto) : fEq false (.str "div") (.str "size") S = .ok (.bl false) S := by kernel_rfl
@[simp] theorem sq_div_add (S : Sto) : fEq false (.str "div") (.str "add") S = .ok (.bl false) S := by kernel_rfl
@[simp] theorem sq_div_sub (S : Sto) : fEq false (.str "div") (.str "sub") S = .ok (.bl false) S := by kernel_rfl
@[simp] theorem sq_div_mul (S : Sto) : fEq false (.str "div") (.str "mul") S = .ok (.bl false) S := by kernel_rfl
@[simp] theorem sq_div_div (S : Sto) : fEq false (.str "div") (.str "div") S = .ok (.bl true) S := by kernel_rfl
@[simp] theorem sq_div_least (S : Sto) : fEq false (.str "div") (.str "least") S = .ok (.bl false) S := by kernel_rfl
@[simp] theorem sq_div_most (S : Sto) : fEq false (.str "div") (.str "most") S = .ok (.bl false) S := by kernel_rfl
@[simp] theorem sq_least_neg (S : Sto) : fEq false (.str "least") (.str "neg") S = .ok (.bl false) S := by kernel_rfl
@[simp] theorem sq_least_size (S : Sto) : fEq false (.str "least") (.str "size") S = .ok (.bl false) S := by kernel_rfl
@[simp] theorem sq_least_add (S : Sto) : fEq false (.str "least") (.str "add") S = .ok (.bl false) S := by kernel_rfl
@[simp] theorem sq_least_sub (S : Sto) : fEq false (.str "least") (.str "sub") S = .ok (.bl false) S := by kernel_rfl
@[simp] theorem sq_least_mul (S : Sto) : fEq false (.str "least") (.str "mul") S = .ok (.bl false) S := by kernel_rfl
@[simp] theorem sq_least_div (S : Sto) : fEq false (.str "least") (.str "div") S = .ok (.bl false) S := by kernel_rfl
@[simp] theorem sq_least_least (S : Sto) : fEq false (.str "least") (.str "least") S = .ok (.bl true) S := by kernel_rfl
@[simp] theorem sq_least_most (S : Sto) : fEq false (.str "least") (.str "most") S = .ok (.bl false) S := by kernel_rfl
@[simp] theorem sq_most_neg (S : Sto) : fEq false (.str "most") (.str "neg") S = .ok (.bl false) S := by kernel_rfl
@[simp] theorem sq_most_size (S : Sto) : fEq false (.str "most") (.str "size") S = .ok (.bl false) S := by kernel_rfl
@[simp] theorem sq_most_add (S : Sto) : fEq false (.str "most") (.str "add") S = .ok (.bl false) S := by kernel_rfl
@[simp] theorem sq_most_sub (S : Sto) : fEq false (.str "most") (.str "sub") S = .ok (.bl false) S := by kernel_rfl
@[simp] theorem sq_most_mul (S : Sto) : fEq false (.str "most") (.str "mul") S = .ok (.bl false) S := by kernel_rfl
@[simp] theorem sq_most_div (S : Sto) : fEq false (.str "most") (.str "div") S = .ok (.bl false) S := by kernel_rfl
@[simp] theorem sq_most_least (S : Sto) : fEq false (.str "most") (.str "least") S = .ok (.bl false) S := by kernel_rfl
@[simp] theorem sq_most_most (S : Sto) : fEq false (.str "most") (.str "most") S = .ok (.bl true) S := by kernel_rfl
@[simp] theorem si_neg_as (S : Sto) : fIn false (.str "neg") (.tup [.str "add", .str "sub"]) S = .ok (.bl false) S := by kernel_rfl
@[simp] theorem si_neg_md (S : Sto) : fIn false (.str "neg") (.tup [.str "mul", .str "div"]) S = .ok (.bl false) S := by kernel_rfl
@[simp] theorem si_neg_lm (S : Sto) : fIn false (.str "neg") (.tup [.str "least", .str "most"]) S = .ok (.bl false) S := by kernel_rfl
@[simp] theorem sd_neg_ns (S : Sto) : fIn false (.str "neg") (.tup [.str "neg", .str "size"]) S = .ok (.bl true) S := by kernel_rfl
@[simp] theorem sd_neg (S : Sto) : fIn true (.str "neg") (.tup [.str "neg", .str "size", .str "add", .str "sub", .str "mul", .str "div", .str "least", .str "most"]) S = .ok (.bl false) S := by kernel_rfl
@[simp] theorem si_size_as (S : Sto) : fIn false (.str "size") (.tup [.str "add", .str "sub"]) S = .ok (.bl false) S := by kernel_rfl
@[simp] theorem si_size_md (S : Sto) : fIn false (.str "size") (.tup [.str "mul", .str "div"]) S = .ok (.bl false) S := by kernel_rfl
@[simp] theorem si_size_lm (S : Sto) : fIn false (.str "size") (.tup [.str "least", .str "most"]) S = .ok (.bl false) S := by kernel_rfl
@[simp] theorem sd_size_ns (S : Sto) : fIn false (.str "size") (.tup [.str "neg", .str "size"]) S = .ok (.bl true) S := by kernel_rfl
@[simp] theorem sd_size (S : Sto) : fIn true (.str "size") (.tup [.str "neg", .str "size", .str "add", .str "sub", .str "mul", .str "div", .str "least", .str "most"]) S = .ok (.bl false) S := by kernel_rfl
@[simp] theorem si_add_as (S : Sto) : fIn false (.str "add") (.tup [.str "add", .str "sub"]) S = .ok (.bl true) S := by kernel_rfl
@[simp] theorem si_add_md (S : Sto) : fIn false (.str "add") (.tup [.str "mul", .str "div"]) S = .ok (.bl false) S := by kernel_rfl
@[simp] theorem si_add_lm (S : Sto) : fIn false (.str "add") (.tup [.str "least", .str "most"]) S = .ok (.bl false) S := by kernel_rfl
@[simp] theorem sd_add_ns (S : Sto) : fIn false (.str "add") (.tup [.str "neg", .str "size"]) S = .ok (.bl false) S := by kernel_rfl
@[simp] theorem sd_add (S : Sto) : fIn true (.str "add") (.tup [.str "neg", .str "size", .str "add", .str "sub", .str "mul", .str "div", .str "least", .str "most"]) S = .ok (.bl false) S := by kernel_rfl
@[simp] theorem si_sub_as (S : Sto) : fIn false (.str "sub") (.tup [.str "add", .str "sub"]) S = .ok (.bl true) S := by kernel_rfl
@[simp] theorem si_sub_md (S : Sto) : fIn false (.str "sub") (.tup [.str "mul", .str "div"]) S = .ok (.bl false) S := by kernel_rfl
@[simp] theorem si_sub_lm (S : Sto) : fIn false (.str "sub") (.tup [.str "least", .str "most"]) S = .ok (.bl false) S := by kernel_rfl
@[simp] theorem sd_sub_ns (S : Sto) : fIn false (.str "sub") (.tup [.str "neg", .str "size"]) S = .ok (.bl false) S := by kernel_rfl
@[simp] theorem sd_sub (S : Sto) : fIn true (.str "sub") (.tup [.str "neg", .str "size", .str "add", .str "sub", .str "mul", .str "div", .str "least", .str "most"]) S = .ok (.bl false) S := by kernel_rfl
@[simp] theorem si_mul_as (S : Sto) : fIn false (.str "mul") (.tup [.str "add", .str "sub"]) S = .ok (.bl false) S := by kernel_rfl
@[simp] theorem si_mul_md (S : Sto) : fIn false (.str "mul") (.tup [.str "mul", .str "div"]) S = .ok (.bl true) S := by kernel_rfl
@[simp] theorem si_mul_lm (S : Sto) : fIn false (.str "mul") (.tup [.str "least", .str "most"]) S = .ok (.bl false) S := by kernel_rfl
@[simp] theorem sd_mul_ns (S : Sto) : fIn false (.str "mul") (.tup [.str "neg", .str "size"]) S = .ok (.bl false) S := by kernel_rfl
@[simp] theorem sd_mul (S : Sto) : fIn true (.str "mul") (.tup [.str "neg", .str "size", .str "add", .str "sub", .str "mul", .str "div", .str "least", .str "most"]) S = .ok (.bl false) S := by kernel_rfl
@[simp] theorem si_div_as (S : Sto) : fIn false (.str "div") (.tup [.str "add", .str "sub"]) S = .ok (.bl false) S := by kernel_rfl
@[simp] theorem si_div_md (S : Sto) : fIn false (.str "div") (.tup [.str "mul", .str "div"]) S = .ok (.bl true) S := by kernel_rfl
@[simp] theorem si_div_lm (S : Sto) : fIn false (.str "div") (.tup [.str "least", .str "most"]) S = .ok (.bl false) S := by kernel_rfl
@[simp] theorem sd_div_ns (S : Sto) : fIn false (.str "div") (.tup [.str "neg", .str "size"]) S = .ok (.bl false) S := by kernel_rfl
@[simp] theorem sd_div (S : Sto) : fIn true (.str "div") (.tup [.str "neg", .str "size", .str "add", .str "sub", .str "mul", .str "div", .str "least", .str "most"]) S = .ok (.bl false) S := by kernel_rfl
@[simp] theorem si_least_as (S : Sto) : fIn false (.str "least") (.tup [.str "add", .str "sub"]) S = .ok (.bl false) S := by kernel_rfl
@[simp] theorem si_least_md (S : Sto) : fIn false (.str "least") (.tup [.str "mul", .str "div"]) S = .ok (.bl false) S := by kernel_rfl
@[simp] theorem si_least_lm (S : Sto) : fIn false (.str "least") (.tup [.str "least", .str "most"]) S = .ok (.bl true) S := by kernel_rfl
@[simp] theorem sd_least_ns (S : Sto) : fIn false (.str "least") (.tup [.str "neg", .str "size"]) S = .ok (.bl false) S := by kernel_rfl
@[simp] theorem sd_least (S : Sto) : fIn true (.str "least") (.tup [.str "neg", .str "size", .str "add", .str "sub", .str "mul", .str "div", .str "least", .str "most"]) S = .ok (.bl false) S := by kernel_rfl
@[simp] theorem si_most_as (S : Sto) : fIn false (.str "most") (.tup [.str "add", .str "sub"]) S = .ok (.bl false) S := by kernel_rfl
@[simp] theorem si_most_md (S : Sto) : fIn false (.str "most") (.tup [.str "mul", .str "div"]) S = .ok (.bl false) S := by kernel_rfl
@[simp] theorem si_most_lm (S : Sto) : fIn false (.str "most") (.tup [.str "least", .str "most"]) S = .ok (.bl true) S := by kernel_rfl
@[simp] theorem sd_most_ns (S : Sto) : fIn false (.str "most") (.tup [.str "neg", .str "size"]) S = .ok (.bl false) S := by kernel_rfl
@[simp] theorem sd_most (S : Sto) : fIn true (.str "most") (.tup [.str "neg", .str "size", .str "add", .str "sub", .str "mul", .str "div", .str "least", .str "most"]) S = .ok (.bl false) S := by kernel_rfl
@[simp] theorem sw_near (S : Sto) : fIn true (.str "near") (.tup [.str "near", .str "down", .str "up", .str "zero"]) S = .ok (.bl false) S := by kernel_rfl
@[simp] theorem swc_near (S : Sto) : fIn true (.str "near") (.ct [.str "near", .str "down", .str "up", .str "zero"]) S = .ok (.bl false) S := by kernel_rfl
@[simp] theorem sw_down (S : Sto) : fIn true (.str "down") (.tup [.str "near", .str "down", .str "up", .str "zero"]) S = .ok (.bl false) S := by kernel_rfl
@[simp] theorem swc_down (S : Sto) : fIn true (.str "down") (.ct [.str "near", .str "down", .str "up", .str "zero"]) S = .ok (.bl false) S := by kernel_rfl
@[simp] theorem sw_up (S : Sto) : fIn true (.str "up") (.tup [.str "near", .str "down", .str "up", .str "zero"]) S = .ok (.bl false) S := by kernel_rfl
@[simp] theorem swc_up (S : Sto) : fIn true (.str "up") (.ct [.str "near", .str "down", .str "up", .str "zero"]) S = .ok (.bl false) S := by kernel_rfl
@[simp] theorem sw_zero (S : Sto) : fIn true (.str "zero") (.tup [.str "near", .str "down", .str "up", .str "zero"]) S = .ok (.bl false) S := by kernel_rfl
@[simp] theorem swc_zero (S : Sto) : fIn true (.str "zero") (.ct [.str "near", .str "down", .str "up", .str "zero"]) S = .ok (.bl false) S := by kernel_rfl
theorem two_words (S : Sto) : fAdd false (.tup [.str "neg", .str "size"]) (.tup [.str "add", .str "sub", .str "mul", .str "div", .str "least", .str "most"]) S = .ok (.tup [.str "neg", .str "size", .str "add", .str "sub", .str "mul", .str "div", .str "least", .str "most"]) S := by kernel_rfl
end Ra
end
section
set_option Elab.async false
set_option linter.all false
set_option maxRecDepth 100000
set_option maxHeartbeats 1000000
/-! sizes of fractions: two bounds -/
namespace Ra
open PySem PySem.Spec PyProof.Rows L2 Mi
structure Sz (n d : Nat) (q : Rat) : Prop where
  n : q.num.natAbs ≤ n
  d : q.den ≤ d
theorem Sz.mono {n d n' d' : Nat} {q : Rat} (h : Sz n d q) (a : n ≤ n') (b : d ≤ d') : Sz n' d' q := ⟨Nat.le_trans h.n a, Nat.le_trans h.d b⟩
theorem Sz.ok {n d : Nat} {q : Rat} (h : Sz n d q) (a : n < 10 ^ 300) (b : d < 10 ^ 300) : Ok q := ⟨Nat.lt_of_le_of_lt h.n a, Nat.lt_of_le_of_lt h.d b⟩
theorem num_ge {n : Nat} {d : Nat} {a b : Int} (hb : b ≠ 0) (h1 : a.natAbs ≤ n) (h2 : b.natAbs ≤ d) : Sz n d (Rat.divInt a b) := by
  have fa : ∀ (c : Int) (g : Nat), (c.fdiv g).natAbs ≤ c.natAbs := fun c g => fdiv_abs
  by_cases p : 0 < b
  · have e1 := num_div (a := a) p
    have e2 := den_div (a := a) p
    have l1 := fa a (Int.gcd a b)
    have l2 := fa b (Int.gcd a b)
    rw [← e1] at l1
    rw [← e2] at l2
    exact ⟨by omega, by omega⟩
  · have e1 := num_divN (a := a) (show b < 0 by omega)
    have e2 := den_divN (a := a) (show b < 0 by omega)
    have l1 := fa (-a) (Int.gcd a b)
    have l2 := fa (-b) (Int.gcd a b)
    rw [← e1] at l1
    rw [← e2] at l2
    exact ⟨by omega, by omega⟩
theorem Sz.add {n d m e : Nat} {x y : Rat} (hx : Sz n d x) (hy : Sz m e y) : Sz (n * e + m * d) (d * e) (x + y) := by
  rw [← add_is]
  refine num_ge (Int.mul_ne_zero (den0 x) (den0 y)) ?_ ?_
  · have a := mul_abs hx.n (show ((y.den : Nat) : Int).natAbs ≤ e by have := hy.d; omega)
    have b := mul_abs hy.n (show ((x.den : Nat) : Int).natAbs ≤ d by have := hx.d; omega)
    have c : (x.num * y.den + y.num * x.den).natAbs ≤ (x.num * y.den).natAbs + (y.num * x.den).natAbs := Int.natAbs_add_le _ _
    omega
  · exact mul_abs (show ((x.den : Nat) : Int).natAbs ≤ d by have := hx.d; omega) (show ((y.den : Nat) : Int).natAbs ≤ e by have := hy.d; omega)
theorem Sz.neg {n d : Nat} {x : Rat} (h : Sz n d x) : Sz n d (-x) := ⟨by rw [Rat.neg_num, Int.natAbs_neg]; exact h.n, by rw [Rat.neg_den]; exact h.d⟩
theorem Sz.sub {n d m e : Nat} {x y : Rat} (hx : Sz n d x) (hy : Sz m e y) : Sz (n * e + m * d) (d * e) (x - y) := by
  rw [Rat.sub_eq_add_neg]
  exact hx.add hy.neg
theorem Sz.mul {n d m e : Nat} {x y : Rat} (hx : Sz n d x) (hy : Sz m e y) : Sz (n * m) (d * e) (x * y) := by
  rw [← mul_is]
  refine num_ge (Int.mul_ne_zero (den0 x) (den0 y)) (mul_abs hx.n hy.n) ?_
  exact mul_abs (show ((x.den : Nat) : Int).natAbs ≤ d by have := hx.d; omega) (show ((y.den : Nat) : Int).natAbs ≤ e by have := hy.d; omega)
theorem Sz.div {n d m e : Nat} {x y : Rat} (hx : Sz n d x) (hy : Sz m e y) (o : 1 ≤ d * m) : Sz (n * e) (d * m) (x / y) := by
  by_cases z : y = 0
  · have : x / y = 0 := by rw [z]; grind
    rw [this]
    exact ⟨Nat.zero_le _, o⟩
  · rw [← div_is]
    refine num_ge (Int.mul_ne_zero (den0 x) (fun h => z (num0.mp h))) ?_ ?_
    · exact mul_abs hx.n (show ((y.den : Nat) : Int).natAbs ≤ e by have := hy.d; omega)
    · exact mul_abs (show ((x.den : Nat) : Int).natAbs ≤ d by have := hx.d; omega) hy.n
theorem Sz.abs {n d : Nat} {x : Rat} (h : Sz n d x) : Sz n d x.abs := ⟨by rw [abs_num]; have := h.n; split <;> omega, by rw [abs_den]; exact h.d⟩
theorem Sz.rmax {n d : Nat} {x y : Rat} (h : Sz n d x) (k : Sz n d y) : Sz n d (rmax x y) := by unfold Ra.rmax; split <;> assumption
theorem Sz.rmin {n d : Nat} {x y : Rat} (h : Sz n d x) (k : Sz n d y) : Sz n d (rmin x y) := by unfold Ra.rmin; split <;> assumption
theorem Sz.mx {n d : Nat} {x y : Rat} (h : Sz n d x) (k : Sz n d y) : Sz n d (mx x y) := h.abs.rmax k.abs
theorem Sz.ls {n d : Nat} {x y : Rat} (h : Sz n d x) (k : Sz n d y) : Sz n d (ls x y) := by
  unfold Ra.ls
  split
  · exact ⟨Nat.zero_le _, Nat.le_trans h.abs.d (Nat.le_refl _) |> fun z => Nat.le_trans (x.den_pos) (by rw [abs_den] at z; exact z)⟩
  · exact h.abs.rmin k.abs
/-- a hold's sizes: of its ends, of its off -/
structure HSz (e n d : Nat) (h : Hd) : Prop where
  lo : Sz e e h.lo
  hi : Sz e e h.hi
  off : Sz n d h.off
theorem HSz.mono {e n d e' n' d' : Nat} {h : Hd} (k : HSz e n d h) (a : e ≤ e') (b : n ≤ n') (c : d ≤ d') : HSz e' n' d' h := ⟨k.lo.mono a a, k.hi.mono a a, k.off.mono b c⟩
theorem ex_sz {w : Wrd} {e : Nat} {x y : Rat} (he : 1 ≤ e) (hx : Sz e e x) (hy : Sz e e y) : Sz (2 * e * e) (2 * e * e) (w.ex x y) := by
  have e1 : 1 * e ≤ e * e := Nat.mul_le_mul he (Nat.le_refl _)
  have e2 : e * e + e * e = 2 * e * e := by grind
  have e3 : e * e ≤ 2 * e * e := by omega
  have e4 : e ≤ 2 * e * e := by omega
  cases w with
  | neg => exact hx.neg.mono e4 e4
  | size => exact hx.abs.mono e4 e4
  | add => exact (hx.add hy).mono (by omega) e3
  | sub => exact (hx.sub hy).mono (by omega) e3
  | mul => exact (hx.mul hy).mono e3 e3
  | div => exact (hx.div hy (by omega)).mono e3 e3
  | least => exact (hx.rmin hy).mono e4 e4
  | most => exact (hx.rmax hy).mono e4 e4
theorem ends_sz {w : Wrd} {e n d n' d' : Nat} {h g : Hd} (he : 1 ≤ e) (hh : HSz e n d h) (hg : HSz e n' d' g) : Sz (2 * e * e) (2 * e * e) (eLo w h g) ∧ Sz (2 * e * e) (2 * e * e) (eHi w h g) := by
  have e1 : 1 * e ≤ e * e := Nat.mul_le_mul he (Nat.le_refl _)
  have e4 : e ≤ 2 * e * e := by grind
  cases w with
  | neg => exact ⟨hh.hi.neg.mono e4 e4, hh.lo.neg.mono e4 e4⟩
  | size => exact ⟨(hh.lo.ls hh.hi).mono e4 e4, (hh.lo.mx hh.hi).mono e4 e4⟩
  | add => exact ⟨ex_sz (w := .add) he hh.lo hg.lo, ex_sz (w := .add) he hh.hi hg.hi⟩
  | sub => exact ⟨ex_sz (w := .sub) he hh.lo hg.hi, ex_sz (w := .sub) he hh.hi hg.lo⟩
  | mul =>
    have a1 := ex_sz (w := .mul) he hh.lo hg.lo
    have a2 := ex_sz (w := .mul) he hh.lo hg.hi
    have a3 := ex_sz (w := .mul) he hh.hi hg.lo
    have a4 := ex_sz (w := .mul) he hh.hi hg.hi
    exact ⟨((a1.rmin a2).rmin a3).rmin a4, ((a1.rmax a2).rmax a3).rmax a4⟩
  | div =>
    have a1 := ex_sz (w := .div) he hh.lo hg.lo
    have a2 := ex_sz (w := .div) he hh.lo hg.hi
    have a3 := ex_sz (w := .div) he hh.hi hg.lo
    have a4 := ex_sz (w := .div) he hh.hi hg.hi
    exact ⟨((a1.rmin a2).rmin a3).rmin a4, ((a1.rmax a2).rmax a3).rmax a4⟩
  | least => exact ⟨(hh.lo.rmin hg.lo).mono e4 e4, (hh.hi.rmin hg.hi).mono e4 e4⟩
  | most => exact ⟨(hh.lo.rmax hg.lo).mono e4 e4, (hh.hi.rmax hg.hi).mono e4 e4⟩
/-- what of a spread comes in between -/
structure SpSz (e n d : Nat) (h g : Hd) : Prop where
  a : Sz (e * n) (e * d) (mx h.lo h.hi * g.off)
  b : Sz (e * n) (e * d) (mx g.lo g.hi * h.off)
  ab : Sz (e * n * (e * d) + e * n * (e * d)) (e * d * (e * d)) (mx h.lo h.hi * g.off + mx g.lo g.hi * h.off)
  c : Sz (n * n) (d * d) (h.off * g.off)
  m : Sz ((e * n * (e * d) + e * n * (e * d)) * (d * d) + n * n * (e * d * (e * d))) (e * d * (e * d) * (d * d)) (mx h.lo h.hi * g.off + mx g.lo g.hi * h.off + h.off * g.off)
  p : Sz (e * n * e) (e * d * e) (mx h.lo h.hi * g.off / ls g.lo g.hi)
  q : Sz (n * (e * d * e) + e * n * e * d) (d * (e * d * e)) (h.off + mx h.lo h.hi * g.off / ls g.lo g.hi)
  l : Sz (e * d + n * e) (e * d) (ls g.lo g.hi - g.off)
  r : Sz ((n * (e * d * e) + e * n * e * d) * (e * d)) (d * (e * d * e) * (e * d + n * e)) ((h.off + mx h.lo h.hi * g.off / ls g.lo g.hi) / (ls g.lo g.hi - g.off))
  s : Sz (n * d + n * d) (d * d) (h.off + g.off)
theorem sp_sz {e n d : Nat} {h g : Hd} (he : 1 ≤ e) (hd : 1 ≤ d) (hh : HSz e n d h) (hg : HSz e n d g) : SpSz e n d h g := by
  have x1 : 1 * 1 ≤ e * d := Nat.mul_le_mul he hd
  have x2 : 1 * 1 ≤ e * d * e := Nat.mul_le_mul x1 he
  have x3 : 1 * 1 ≤ d * (e * d * e) := Nat.mul_le_mul hd x2
  have x4 : 1 * 1 ≤ d * (e * d * e) * (e * d + n * e) := Nat.mul_le_mul x3 (by omega)
  have M := hh.lo.mx hh.hi
  have N := hg.lo.mx hg.hi
  have L := hg.lo.ls hg.hi
  have a := M.mul hg.off
  have b := N.mul hh.off
  have c := hh.off.mul hg.off
  have ab := a.add b
  have p := a.div L (by omega)
  have q := hh.off.add p
  have l := L.sub hg.off
  exact ⟨a, b, ab, c, ab.add c, p, q, l, q.div l (by omega), hh.off.add hg.off⟩
end Ra
end
section
set_option Elab.async false
set_option linter.all false
set_option maxRecDepth 100000
set_option maxHeartbeats 1000000
/-! == of fractions, of holds -/
namespace Ra
open PySem PySem.Spec PyProof.Rows L2 Mi
def dQ (x : Rat) : PyData := .tuple [.int x.num, .int (x.den : Int)]
theorem rat_ext {x y : Rat} (h1 : x.num = y.num) (h2 : x.den = y.den) : x = y := Rat.ext h1 h2
theorem eqv_q (x y : Rat) : PyData.eqv (dQ x) (dQ y) = decide (x = y) := by
  by_cases h : x = y
  · subst h
    simp [dQ, PyData.eqv, PyData.eqvAll]
  · have : ¬ (x.num = y.num ∧ (x.den : Int) = (y.den : Int)) := fun z => h (rat_ext z.1 (by have := z.2; omega))
    by_cases h1 : x.num = y.num
    · have h2 : ¬ ((x.den : Int) = (y.den : Int)) := fun z => this ⟨h1, z⟩
      have h3 : ¬ x.den = y.den := by omega
      simp [dQ, PyData.eqv, PyData.eqvAll, h]
      exact fun _ => h2
    · simp [dQ, PyData.eqv, PyData.eqvAll, h, h1]
theorem eq_q (neg : Bool) (x y : Rat) (S : Sto) : fEq neg (eQ x) (eQ y) S = .ok (.bl (if neg = true then !decide (x = y) else decide (x = y))) S := by
  rw [← eqv_q]
  have shp : ∀ q : Rat, SeqAt.shaped (dQ q) = true := fun q => by
    unfold SeqAt.shaped
    simp [dQ, PyData.canLay0, PyData.canLayAll0, PyData.depth, PyData.depthAll]
  show (if SeqAt.shaped (dQ x) = true ∧ SeqAt.shaped (dQ y) = true then Res.ok (PV.bl (if neg = true then !PyData.eqv (dQ x) (dQ y) else PyData.eqv (dQ x) (dQ y))) S else .bad) = _
  rw [if_pos ⟨shp x, shp y⟩]
def d3 (a b c : Rat) : PyData := .tuple [dQ a, dQ b, dQ c]
theorem eqv_3 (a b c a' b' c' : Rat) : PyData.eqv (d3 a b c) (d3 a' b' c') = decide (a = a' ∧ b = b' ∧ c = c') := by
  by_cases h1 : a = a' <;> by_cases h2 : b = b' <;> by_cases h3 : c = c' <;> simp [d3, PyData.eqv, PyData.eqvAll, eqv_q, h1, h2, h3]
theorem eq_3 (neg : Bool) (a b c a' b' c' : Rat) (S : Sto) : fEq neg (.tup [eQ a, eQ b, eQ c]) (.tup [eQ a', eQ b', eQ c']) S = .ok (.bl (if neg = true then !decide (a = a' ∧ b = b' ∧ c = c') else decide (a = a' ∧ b = b' ∧ c = c'))) S := by
  rw [← eqv_3]
  have shp : ∀ a b c : Rat, SeqAt.shaped (d3 a b c) = true := fun a b c => by
    unfold SeqAt.shaped
    simp [d3, dQ, PyData.canLay0, PyData.canLayAll0, PyData.depth, PyData.depthAll]
  show (if SeqAt.shaped (d3 a b c) = true ∧ SeqAt.shaped (d3 a' b' c') = true then Res.ok (PV.bl (if neg = true then !PyData.eqv (d3 a b c) (d3 a' b' c') else PyData.eqv (d3 a b c) (d3 a' b' c'))) S else .bad) = _
  rw [if_pos ⟨shp _ _ _, shp _ _ _⟩]
end Ra
end
section
set_option Elab.async false
set_option linter.all false
set_option maxRecDepth 100000
set_option maxHeartbeats 1000000
set_option exponentiation.threshold 5000
/-! what is shown: repr of nested values -/
namespace Ra
open PySem PySem.Spec PyProof.Rows L2 Mi
structure Shw (n : Nat) (d : PyData) : Prop where
  s : d.showable = true
  o : PyData.strOk d.shown = true
  l : d.shown.length ≤ n
theorem Shw.mono {m n : Nat} {d : PyData} (h : Shw m d) (k : m ≤ n) : Shw n d := ⟨h.s, h.o, Nat.le_trans h.l k⟩
theorem ok_app {a b : Str} (h : PyData.strOk a = true) (k : PyData.strOk b = true) : PyData.strOk (a ++ b) = true := by
  unfold PyData.strOk at *
  show (a.cps ++ b.cps).all _ = true
  rw [Array.all_append, h, k]
  rfl
theorem ok_join {sep : Str} (hs : PyData.strOk sep = true) : ∀ ts : List Str, (∀ t ∈ ts, PyData.strOk t = true) → PyData.strOk (Str.join sep ts) = true
  | [], _ => by show PyData.strOk Str.empty = true; decide +kernel
  | [t], h => h t List.mem_cons_self
  | t :: u :: r, h => by
    show PyData.strOk (t ++ sep ++ Str.join sep (u :: r)) = true
    exact ok_app (ok_app (h t List.mem_cons_self) hs) (ok_join hs (u :: r) (fun y hy => h y (List.mem_cons_of_mem _ hy)))
theorem ok_from : ∀ (ts : List Str) (k : Nat) (acc : Str), PyData.strOk acc = true → (∀ t ∈ ts, PyData.strOk t = true) → PyData.strOk (textFrom k acc ts) = true
  | [], k, acc, h, _ => h
  | t :: r, k, acc, h, ht => by
    show PyData.strOk (textFrom (k + 1) (acc ++ (if k > 0 then ", " else "" : String) ++ t) r) = true
    refine ok_from r (k + 1) _ (ok_app (ok_app h ?_) (ht t List.mem_cons_self)) (fun y hy => ht y (List.mem_cons_of_mem _ hy))
    split <;> decide +kernel
theorem ok_tup {ts : List Str} (h : ∀ t ∈ ts, PyData.strOk t = true) : PyData.strOk (tupleText ts) = true := by
  unfold tupleText
  refine ok_app (ok_app (by decide +kernel) (ok_join (by decide +kernel) ts h)) ?_
  split <;> decide +kernel
theorem ok_list {ts : List Str} (h : ∀ t ∈ ts, PyData.strOk t = true) : PyData.strOk (listText ts) = true := ok_app (ok_from ts 0 _ (by decide +kernel) h) (by decide +kernel)
theorem shw_int {i : Int} (h : i.natAbs < 10 ^ 300) : Shw 301 (.int i) := by
  refine ⟨?_, ?_, ?_⟩
  · have : i.natAbs < 2 ^ 1920 := Nat.lt_trans h (by decide +kernel)
    simp only [PyData.showable, decide_eq_true_eq]
    by_cases h0 : i.natAbs = 0
    · rw [h0]; decide +kernel
    · exact (Nat.log2_lt h0).mpr this
  · unfold PyData.strOk
    rw [Array.all_eq_true_iff_forall_mem]
    intro c hc
    simp only [decide_eq_true_eq]
    by_cases q : c < 0x110000
    · exact q
    · exact absurd (by simpa using hc) (shown_int_free' (k := c) ⟨by omega, by omega⟩ i)
  · have e := int_text_length_le10 (k := 300) (by decide) h
    show (Str.ofString (toString i)).length ≤ 301
    rw [PySem.ofString_length]
    exact e
theorem shw_all {n : Nat} : ∀ xs : List PyData, (∀ x ∈ xs, Shw n x) → PyData.showableAll xs = true ∧ (∀ t ∈ PyData.shownAll xs, PyData.strOk t = true) ∧ ((PyData.shownAll xs).map (·.length)).sum ≤ n * xs.length ∧ (PyData.shownAll xs).length = xs.length
  | [], _ => ⟨rfl, (fun t h => by rw [PyData.shownAll] at h; cases h), Nat.zero_le _, rfl⟩
  | x :: xs, h => by
    obtain ⟨a, b, c, d⟩ := shw_all xs (fun y hy => h y (List.mem_cons_of_mem _ hy))
    have k := h x List.mem_cons_self
    refine ⟨?_, ?_, ?_, ?_⟩
    · rw [PyData.showableAll, k.s, a]; rfl
    · intro t ht
      rw [PyData.shownAll] at ht
      rcases List.mem_cons.mp ht with rfl | ht
      · exact k.o
      · exact b t ht
    · rw [PyData.shownAll, List.map_cons, List.sum_cons, List.length_cons, Nat.mul_succ]
      have := k.l
      show x.shown.length + _ ≤ _
      omega
    · rw [PyData.shownAll, List.length_cons, List.length_cons, d]
theorem shw_tup {n m : Nat} {xs : List PyData} (h : ∀ x ∈ xs, Shw n x) (hl : xs.length ≤ m) : Shw ((n + 2) * m + 3) (.tuple xs) := by
  obtain ⟨a, b, c, d⟩ := shw_all xs h
  refine ⟨by rw [PyData.showable]; exact a, by rw [PyData.shown]; exact ok_tup b, ?_⟩
  rw [PyData.shown]
  have e := tupleText_len_le (PyData.shownAll xs)
  have f : n * xs.length ≤ n * m := Nat.mul_le_mul (Nat.le_refl _) hl
  rw [Nat.add_mul]
  omega
theorem shw_list {n m : Nat} {xs : List PyData} (h : ∀ x ∈ xs, Shw n x) (hl : xs.length ≤ m) : Shw ((n + 2) * m + 3) (.list xs) := by
  obtain ⟨a, b, c, d⟩ := shw_all xs h
  refine ⟨by rw [PyData.showable]; exact a, by rw [PyData.shown]; exact ok_list b, ?_⟩
  rw [PyData.shown]
  have e := listText_len_le (PyData.shownAll xs)
  have f : n * xs.length ≤ n * m := Nat.mul_le_mul (Nat.le_refl _) hl
  rw [Nat.add_mul]
  omega
/-- a value that can be shown, compared -/
structure Vs (n : Nat) (v : PV) : Prop where
  ex : ∃ d, toD v = some d ∧ Shw n d ∧ d.depth ≤ 5 ∧ d.canLay0 = true
theorem Vs.mono {m n : Nat} {v : PV} (h : Vs m v) (k : m ≤ n) : Vs n v := by
  obtain ⟨d, a, b, c⟩ := h.ex
  exact ⟨d, a, b.mono k, c⟩
theorem vs_bl (b : Bool) : Vs 10 (.bl b) := ⟨.bool b, rfl, ⟨by cases b <;> rfl, by cases b <;> decide +kernel, by cases b <;> decide +kernel⟩, by simp [PyData.depth], rfl⟩
theorem vs_non : Vs 10 .non := ⟨.none, rfl, ⟨rfl, by decide +kernel, by decide +kernel⟩, by simp [PyData.depth], rfl⟩
theorem vs_q {q : Rat} (h : Ok q) : Vs 1000 (eQ q) := by
  refine ⟨dQ q, rfl, (shw_tup (n := 301) (m := 2) (xs := [.int q.num, .int (q.den : Int)]) ?_ (Nat.le_refl 2)).mono (by decide), by simp [dQ, PyData.depth, PyData.depthAll], by simp [dQ, PyData.canLay0, PyData.canLayAll0]⟩
  intro y hy
  simp only [List.mem_cons, List.not_mem_nil, or_false] at hy
  rcases hy with rfl | rfl
  · exact shw_int h.n
  · exact shw_int (by have := h.d; omega)
theorem vs_3 {a b c : Rat} (ha : Ok a) (hb : Ok b) (hc : Ok c) : Vs 5000 (.tup [eQ a, eQ b, eQ c]) := by
  refine ⟨d3 a b c, rfl, (shw_tup (n := 1000) (m := 3) (xs := [dQ a, dQ b, dQ c]) ?_ (Nat.le_refl 3)).mono (by decide), by simp [d3, dQ, PyData.depth, PyData.depthAll], by simp [d3, dQ, PyData.canLay0, PyData.canLayAll0]⟩
  intro y hy
  have q : ∀ {x : Rat}, Ok x → Shw 1000 (dQ x) := fun {x} hx => by
    obtain ⟨d, e, s, _⟩ := (vs_q hx).ex
    have e' : toD (eQ x) = some (dQ x) := rfl
    rw [e'] at e
    cases e
    exact s
  simp only [List.mem_cons, List.not_mem_nil, or_false] at hy
  rcases hy with rfl | rfl | rfl
  · exact q ha
  · exact q hb
  · exact q hc
theorem vs_list : ∀ {xs : List PV}, (∀ x ∈ xs, Vs 5000 x) → ∃ ds, toDL xs = some ds ∧ (∀ d ∈ ds, Shw 5000 d) ∧ ds.length = xs.length ∧ PyData.depthAll ds ≤ 5 ∧ PyData.canLayAll0 ds = true
  | [], _ => ⟨[], rfl, (fun d h => by cases h), rfl, Nat.zero_le _, rfl⟩
  | x :: xs, h => by
    obtain ⟨ds, e, s, l, dp, cl⟩ := vs_list (fun y hy => h y (List.mem_cons_of_mem _ hy))
    obtain ⟨d, e1, s1, d1, c1⟩ := (h x List.mem_cons_self).ex
    refine ⟨d :: ds, by rw [toDL, e1, e], fun z hz => ?_, by simp [l], ?_, ?_⟩
    · rcases List.mem_cons.mp hz with rfl | hz
      · exact s1
      · exact s z hz
    · rw [PyData.depthAll]; omega
    · rw [PyData.canLayAll0, c1, cl]; rfl
/-- what repr tells of a list -/
def rpr (xs : List PV) : Str := match toDL xs with
  | some ds => (PyData.list ds).shown
  | none => ""
theorem repr_of {xs : List PV} (h : ∀ x ∈ xs, Vs 5000 x) (l : xs.length ≤ 100) : (∀ v S, toDS v S = (toDL xs).map PyData.list → fRepr [v] S = .ok (.str (rpr xs)) S) ∧ PyData.strOk (rpr xs) = true := by
  obtain ⟨ds, e, s, ln, dp, cl⟩ := vs_list h
  have sh := shw_list (n := 5000) (m := 100) s (by omega)
  have er : rpr xs = (PyData.list ds).shown := by unfold rpr; rw [e]
  have dd : (PyData.list ds).depth ≤ 64 := by simp only [PyData.depth]; omega
  have lm : (PyData.list ds).shown.length ≤ lim := Nat.le_trans sh.l (by decide)
  refine ⟨fun v S ev => ?_, by rw [er]; exact sh.o⟩
  show (match toDS v S with | some d => if d.showable = true ∧ d.depth ≤ 64 ∧ d.shown.length ≤ lim then Res.ok (PV.str d.shown) S else .bad | none => .bad) = _
  rw [ev, e, er]
  simp only [Option.map_some, sh.s, dd, lm, and_self, if_true]
theorem repr_nl {xs : List PV} {S : Sto} (h : ∀ x ∈ xs, Vs 5000 x) (l : xs.length ≤ 100) : fRepr [.nl xs] S = .ok (.str (rpr xs)) S := (repr_of h l).1 _ _ rfl
theorem repr_ref {xs : List PV} {S : Sto} {n : Nat} (h : ∀ x ∈ xs, Vs 5000 x) (l : xs.length ≤ 100) (e : S[n]? = some (SO.lst xs)) : fRepr [.ref n] S = .ok (.str (rpr xs)) S := (repr_of h l).1 _ _ (by
  show (match S[n]? with | some (SO.lst xs) => (toDL xs).map PyData.list | _ => none) = _
  rw [e])
theorem ne_str {t : Str} {S : Sto} (h : PyData.strOk t = true) : fEq true (.str t) (.str t) S = .ok (.bl false) S := by
  have s : SeqAt.shaped (.str t) = true := by
    unfold SeqAt.shaped
    rw [PyData.canLay0, h]
    rfl
  show (if SeqAt.shaped (.str t) = true ∧ SeqAt.shaped (.str t) = true then Res.ok (PV.bl (if true = true then !PyData.eqv (.str t) (.str t) else PyData.eqv (.str t) (.str t))) S else .bad) = _
  rw [if_pos ⟨s, s⟩]
  simp [PyData.eqv]
theorem ne_rpr {xs : List PV} {S : Sto} (h : ∀ x ∈ xs, Vs 5000 x) (l : xs.length ≤ 100) : fEq true (.str (rpr xs)) (.str (rpr xs)) S = .ok (.bl false) S := ne_str (repr_of h l).2
end Ra
end
section
set_option Elab.async false
set_option linter.all false
set_option maxRecDepth 100000
set_option maxHeartbeats 1000000
/-! the numbers of a format as a row: the plain law -/
namespace Ra
open PySem PySem.Spec PyProof.Rows L2 Mi
noncomputable def topR (f : Fm) : Rat := pw f.b (f.k + f.hi)
noncomputable def dnR (f : Fm) (x : Rat) : Rat := ((x / gapR f x).floor : Rat) * gapR f x
noncomputable def upR (f : Fm) (x : Rat) : Rat := ((-((-(x / gapR f x)).floor) : Int) : Rat) * gapR f x
def Ext (f : Fm) (r : Rat) : Prop := IsNum f r ∨ r = topR f ∨ r = -topR f
theorem Ext.neg {f : Fm} {r : Rat} (h : Ext f r) : Ext f (-r) := by
  rcases h with h | h | h
  · exact .inl h.neg
  · exact .inr (.inr (by rw [h]))
  · exact .inr (.inl (by rw [h]; grind))
theorem top_pos {f : Fm} (hf : FmOk f) : 0 < topR f := pw_pos (by have := hf.b0; omega) _
theorem ex_of {f : Fm} {x : Rat} (hf : FmOk f) (l : x.abs < topR f) : IsEx f.b f.k f.lo x (exO f x) ∧ exO f x ≤ f.hi := by
  have hb : 1 ≤ f.b := by have := hf.b0; omega
  have h := exO_of (f := f) (x := x) (E := f.hi) hf.lh l
  exact ⟨h, IsEx.le hb h hf.lh l⟩
theorem abs_ge {x o : Rat} (h : o ≤ x.abs) : x ≤ -o ∨ o ≤ x := by
  rw [abs_is'] at h
  split at h <;> grind
theorem ext_mul {f : Fm} {E j : Int} (hf : FmOk f) (h1 : f.lo ≤ E) (h2 : E ≤ f.hi) (b1 : -((f.b ^ f.k.toNat : Nat) : Int) ≤ j) (b2 : j ≤ ((f.b ^ f.k.toNat : Nat) : Int)) : Ext f ((j : Rat) * pw f.b E) := by
  have hb : 0 < f.b := by have := hf.b0; omega
  have hb1 : 1 ≤ f.b := hb
  obtain ⟨m, hm⟩ := gaps_num hf rfl h1 b1 b2
  have up := abs_int_mul (m := j) (g := pw f.b E) (N := f.b ^ f.k.toNat) (pw_pos hb E) b1 b2
  rw [← pw_k hf] at up
  have tp := pw_mono hb1 (show f.k + E ≤ f.k + f.hi by omega)
  generalize (j : Rat) * pw f.b E = r at hm up
  by_cases c : r.abs ≤ mostR f
  · exact .inl ⟨c, m, hm⟩
  · right
    have le : r.abs ≤ topR f := Rat.le_trans up tp
    by_cases q : r.abs < topR f
    · exfalso
      have ⟨e1, e2⟩ := ex_of hf q
      have l := e1.2.1
      rw [pw_k hf] at l
      have g0 : 0 < gapR f r := gap_pos hf r
      have hm' : r.abs = ((m.natAbs : Nat) : Rat) * gapR f r := by
        have a := abs_mul (m : Rat) (gapR f r)
        rw [← hm] at a
        have ga : (gapR f r).abs = gapR f r := by rw [abs_is']; grind
        have mc : ((m : Rat)).abs = ((m.natAbs : Nat) : Rat) := by
          rw [abs_is', ← Rat.intCast_natCast]
          have z : ((m : Rat) < 0) ↔ m < 0 := Rat.intCast_lt_intCast (a := m) (b := 0)
          by_cases h : m < 0
          · rw [if_pos (z.mpr h), ← Rat.intCast_neg]; congr 1; omega
          · rw [if_neg (fun q => h (z.mp q))]; congr 1; omega
        rw [a, ga, mc]
      have l2 : ((m.natAbs : Nat) : Rat) * gapR f r < ((f.b ^ f.k.toNat : Nat) : Rat) * gapR f r := by rw [← hm']; exact l
      have l3 : m.natAbs < f.b ^ f.k.toNat := Rat.natCast_lt_natCast.mp ((Rat.mul_lt_mul_right g0).mp l2)
      have l4 : ((m.natAbs : Nat) : Rat) * gapR f r ≤ ((f.b ^ f.k.toNat - 1 : Nat) : Rat) * gapR f r := Rat.mul_le_mul_of_nonneg_right (nat_le.mpr (by omega)) (Rat.le_of_lt g0)
      have l5 : ((f.b ^ f.k.toNat - 1 : Nat) : Rat) * gapR f r ≤ mostR f := Rat.mul_le_mul_of_nonneg_left (pw_mono hb1 e2) (nat_le.mpr (Nat.zero_le _))
      grind
    · have e : r.abs = topR f := by grind
      rw [abs_is'] at e
      split at e
      · right; grind
      · left; exact e
theorem num_mul {f : Fm} {r : Rat} {E : Int} (hf : FmOk f) (h : IsNum f r) (l : E ≤ exO f r) : ∃ j : Int, r = (j : Rat) * pw f.b E := by
  have hb : 0 < f.b := by have := hf.b0; omega
  obtain ⟨_, m, hm⟩ := h
  refine ⟨m * ((f.b ^ (exO f r - E).toNat : Nat) : Int), ?_⟩
  rw [Rat.intCast_mul, Rat.intCast_natCast, Rat.mul_assoc, Rat.mul_comm (((f.b ^ (exO f r - E).toNat : Nat) : Rat)), ← pw_sub hb l]
  exact hm
theorem num_lt {f : Fm} {r : Rat} (hf : FmOk f) (h : IsNum f r) : r.abs < topR f := by
  have := most_lt hf
  have := h.le
  unfold topR
  grind
theorem num_lo {f : Fm} {r : Rat} (hf : FmOk f) (h : IsNum f r) : ∃ j : Int, r = (j : Rat) * pw f.b f.lo := num_mul hf h (ex_of hf (num_lt hf h)).1.1
/-- a multiple of the gap at most x is at most the greatest one -/
theorem mul_dn {x g : Rat} {j : Int} (hg : 0 < g) (h : (j : Rat) * g ≤ x) : (j : Rat) * g ≤ ((x / g).floor : Rat) * g := by
  refine Rat.mul_le_mul_of_nonneg_right (int_le.mpr (Rat.le_floor_iff.mpr ?_)) (Rat.le_of_lt hg)
  have i := Rat.le_of_lt (Rat.inv_pos.mpr hg)
  have := Rat.mul_le_mul_of_nonneg_right h i
  have g0 : g ≠ 0 := by grind
  have e : ((j : Rat) * g) * g⁻¹ = (j : Rat) := by
    generalize (j : Rat) = t
    clear h i this
    grind
  rw [Rat.div_def]
  rw [e] at this
  exact this
theorem below {f : Fm} {x r : Rat} (hf : FmOk f) (l : x.abs < topR f) (h : Ext f r) (le : r ≤ x) : r ≤ dnR f x := by
  have hb : 0 < f.b := by have := hf.b0; omega
  have hb1 : 1 ≤ f.b := hb
  have ⟨ex, eh⟩ := ex_of hf l
  have g0 := gap_pos hf x
  have sub : ∀ (j : Int) (s : Rat), s = (j : Rat) * gapR f x → s ≤ x → s ≤ dnR f x := fun j s e q => by
    rw [e] at q ⊢
    exact mul_dn g0 q
  have hl := (abs_le (x := x) (o := x.abs)).mp Rat.le_refl
  rcases h with h | h | h
  · by_cases q : exO f x ≤ exO f r
    · obtain ⟨j, hj⟩ := num_mul hf h q
      exact sub j r hj le
    · have er := (ex_of hf (num_lt hf h)).1
      have lr := er.2.1
      have m := pw_mono hb1 (show f.k + exO f r ≤ f.k + (exO f x - 1) by omega)
      rcases ex.2.2 with z | z
      · have := er.1; omega
      · have hr := (abs_le (x := r) (o := r.abs)).mp Rat.le_refl
        rcases abs_ge z with z | z
        · grind
        · have e : pw f.b (f.k + (exO f x - 1)) = (((f.b ^ (f.k - 1).toNat : Nat) : Int) : Rat) * gapR f x := by
            unfold gapR
            rw [Rat.intCast_natCast, Rat.mul_comm, ← pw_add hb]
            congr 1
            have := hf.k0
            omega
          have := sub _ _ e z
          grind
  · grind
  · have e : -topR f = ((-((f.b ^ (f.k + f.hi - exO f x).toNat : Nat) : Int) : Int) : Rat) * gapR f x := by
      unfold topR gapR
      rw [Rat.intCast_neg, Rat.intCast_natCast, Rat.neg_mul, Rat.mul_comm, ← pw_add hb]
      congr 2
      have := hf.k0
      omega
    exact sub _ r (by rw [h, e]) le
theorem gap_neg (f : Fm) (x : Rat) : gapR f (-x) = gapR f x := gap_abs (abs_neg x)
theorem up_dn (f : Fm) (x : Rat) : upR f x = -dnR f (-x) := by
  unfold upR dnR
  rw [gap_neg, Rat.intCast_neg, Rat.neg_mul]
  have : -(x / gapR f x) = -x / gapR f x := by rw [Rat.div_def, Rat.div_def, Rat.neg_mul]
  rw [this]
theorem above {f : Fm} {x r : Rat} (hf : FmOk f) (l : x.abs < topR f) (h : Ext f r) (le : x ≤ r) : upR f x ≤ r := by
  have := below hf (x := -x) (r := -r) (by rw [abs_neg]; exact l) h.neg (by grind)
  rw [up_dn]
  grind
theorem dn_le {f : Fm} (x : Rat) (hf : FmOk f) : dnR f x ≤ x := by
  have g0 := gap_pos hf x
  have g : gapR f x ≠ 0 := by grind
  have := Rat.mul_le_mul_of_nonneg_right (Rat.floor_le (x / gapR f x)) (Rat.le_of_lt g0)
  unfold dnR
  have e : x / gapR f x * gapR f x = x := by rw [Rat.div_def]; grind
  rw [e] at this
  exact this
theorem le_up {f : Fm} (x : Rat) (hf : FmOk f) : x ≤ upR f x := by
  have := dn_le (-x) hf
  rw [up_dn]
  grind
theorem rnd_ext {f : Fm} {x : Rat} (w : Wy) (hf : FmOk f) (l : x.abs < topR f) : Ext f ((rnd w (x / gapR f x) : Int) * gapR f x) := by
  have ⟨ex, eh⟩ := ex_of hf l
  have l := ex.2.1
  rw [pw_k hf] at l
  have b := rnd_abs (w := w) (gap_pos hf x) (Rat.le_of_lt l)
  exact ext_mul hf ex.1 eh b.1 b.2
theorem dn_ext {f : Fm} {x : Rat} (hf : FmOk f) (l : x.abs < topR f) : Ext f (dnR f x) := rnd_ext .down hf l
theorem up_ext {f : Fm} {x : Rat} (hf : FmOk f) (l : x.abs < topR f) : Ext f (upR f x) := rnd_ext .up hf l
/-! rounding, told by the neighbours -/
noncomputable def rndR (f : Fm) (w : Wy) (x : Rat) : Rat := (rnd w (x / gapR f x) : Int) * gapR f x
theorem rnd_dn (f : Fm) (x : Rat) : rndR f .down x = dnR f x := rfl
theorem rnd_up (f : Fm) (x : Rat) : rndR f .up x = upR f x := rfl
theorem top_no {f : Fm} (hf : FmOk f) : ¬ IsNum f (topR f) ∧ ¬ IsNum f (-topR f) := by
  have t := top_pos hf
  constructor
  · intro h
    have := num_lt hf h
    rw [abs_is'] at this
    grind
  · intro h
    have := num_lt hf h
    rw [abs_neg, abs_is'] at this
    grind
theorem roundR_is {f : Fm} {w : Wy} {x : Rat} (hf : FmOk f) (l : x.abs < topR f) : roundR f w x = if rndR f w x = topR f ∨ rndR f w x = -topR f then none else some (rndR f w x) := by
  have e := rnd_ext w hf l
  have t := top_no hf
  have tp := top_pos hf
  have ml := most_lt hf
  unfold roundR
  show (if (rndR f w x).abs ≤ mostR f then some (rndR f w x) else none) = _
  have e : Ext f (rndR f w x) := e
  generalize rndR f w x = r at e
  have ml : mostR f < topR f := ml
  rcases e with e | e | e
  · rw [if_pos e.le, if_neg]
    rintro (q | q)
    · exact t.1 (q ▸ e)
    · exact t.2 (q ▸ e)
  · rw [if_neg, if_pos (.inl e)]
    rw [e, abs_is']
    grind
  · rw [if_neg, if_pos (.inr e)]
    rw [e, abs_neg, abs_is']
    grind
theorem round_far {f : Fm} {w : Wy} {x : Rat} (hf : FmOk f) (hx : Ok x) (l : topR f ≤ x.abs) : roundR f w x = none := by
  have hb : 0 < f.b := by have := hf.b0; omega
  have hb1 : 1 ≤ f.b := hb
  have ex := exO_is hf hx
  have eh : f.hi + 1 ≤ exO f x := by
    by_cases q : f.hi + 1 ≤ exO f x
    · exact q
    · have m := pw_mono hb1 (show f.k + exO f x ≤ f.k + f.hi by omega)
      have := ex.2.1
      unfold topR at l
      grind
  have g0 := gap_pos hf x
  have gi := Rat.le_of_lt (Rat.inv_pos.mpr g0)
  have z : pw f.b (f.k + (exO f x - 1)) ≤ x.abs := by
    rcases ex.2.2 with z | z
    · have := hf.lh; omega
    · exact z
  have e : pw f.b (f.k + (exO f x - 1)) = (((f.b ^ (f.k - 1).toNat : Nat) : Int) : Rat) * gapR f x := by
    unfold gapR
    rw [Rat.intCast_natCast, Rat.mul_comm, ← pw_add hb]
    congr 1
    have := hf.k0
    omega
  have tl : topR f ≤ pw f.b (f.k + (exO f x - 1)) := pw_mono hb1 (by omega)
  have ml : mostR f < topR f := most_lt hf
  generalize hN : (((f.b ^ (f.k - 1).toNat : Nat) : Int)) = N at e
  have far : topR f ≤ (rndR f w x).abs := by
    refine Rat.le_trans tl ?_
    rw [e]
    have ne : gapR f x ≠ 0 := by grind
    have can : ∀ t : Rat, (t * gapR f x) * (gapR f x)⁻¹ = t := fun t => by
      clear e z tl
      generalize gapR f x = g at ne
      grind
    rcases abs_ge z with q | q
    · have r1 : rnd w (x / gapR f x) ≤ -N := by
        refine rnd_le ?_
        rw [Rat.div_def, Rat.intCast_neg]
        rw [e, ← Rat.neg_mul] at q
        have := Rat.mul_le_mul_of_nonneg_right q gi
        rw [can] at this
        exact this
      have r2 : rndR f w x ≤ -((N : Rat) * gapR f x) := by
        have := Rat.mul_le_mul_of_nonneg_right (int_le.mpr r1) (Rat.le_of_lt g0)
        rw [Rat.intCast_neg, Rat.neg_mul] at this
        exact this
      rw [abs_is']
      split <;> grind
    · have r1 : N ≤ rnd w (x / gapR f x) := by
        refine ge_rnd ?_
        rw [Rat.div_def]
        rw [e] at q
        have := Rat.mul_le_mul_of_nonneg_right q gi
        rw [can] at this
        exact this
      have r2 : (N : Rat) * gapR f x ≤ rndR f w x := Rat.mul_le_mul_of_nonneg_right (int_le.mpr r1) (Rat.le_of_lt g0)
      rw [abs_is']
      split <;> grind
  unfold roundR
  rw [if_neg]
  show ¬ (rndR f w x).abs ≤ mostR f
  grind
/-- what is nearest -/
theorem rnd_zero {f : Fm} {x : Rat} (hf : FmOk f) : rndR f .zero x = if 0 ≤ x then dnR f x else upR f x := by
  have g0 := gap_pos hf x
  have z : 0 ≤ x / gapR f x ↔ 0 ≤ x := by
    have gi := Rat.inv_pos.mpr g0
    have e : x / gapR f x * gapR f x = x := by
      have : gapR f x ≠ 0 := by grind
      rw [Rat.div_def]; grind
    constructor
    · intro h
      have := Rat.mul_nonneg h (Rat.le_of_lt g0)
      rwa [e] at this
    · intro h
      rw [Rat.div_def]
      exact Rat.mul_nonneg h (Rat.le_of_lt gi)
  unfold rndR dnR upR
  simp only [rnd, z]
  split <;> rfl
theorem rnd_nearE {f : Fm} {x : Rat} (hf : FmOk f) (ne : dnR f x ≠ upR f x) :
    upR f x = dnR f x + gapR f x ∧ rndR f .near x = if x - dnR f x = upR f x - x then (if (x / gapR f x).floor % 2 = 0 then dnR f x else upR f x) else if x - dnR f x ≤ upR f x - x then dnR f x else upR f x := by
  have g0 := gap_pos hf x
  have gn : gapR f x ≠ 0 := by grind
  have e : x = x / gapR f x * gapR f x := by rw [Rat.div_def]; grind
  have h1 := Rat.floor_le (x / gapR f x)
  have h2 := Rat.lt_floor_add_one (x / gapR f x)
  have h3 := Rat.floor_le (-(x / gapR f x))
  have h4 := Rat.lt_floor_add_one (-(x / gapR f x))
  rw [cast_add1] at h2 h4
  have ne' : -((-(x / gapR f x)).floor) ≠ (x / gapR f x).floor := fun z => ne (by unfold dnR upR; rw [z])
  have hu : -((-(x / gapR f x)).floor) = (x / gapR f x).floor + 1 := by
    have a1 : ((x / gapR f x).floor : Rat) ≤ ((-((-(x / gapR f x)).floor) : Int) : Rat) := by rw [Rat.intCast_neg]; grind
    have a2 : ((-((-(x / gapR f x)).floor) : Int) : Rat) < (((x / gapR f x).floor + 2 : Int) : Rat) := by
      rw [Rat.intCast_neg, Rat.intCast_add]
      have : ((2 : Int) : Rat) = 2 := rfl
      rw [this]
      grind
    have b1 := int_le.mp a1
    have b2 := Rat.intCast_lt_intCast.mp a2
    omega
  have eu : upR f x = dnR f x + gapR f x := by
    unfold upR dnR
    rw [hu, cast_add1]
    grind
  refine ⟨eu, ?_⟩
  have c1 : (x - dnR f x = upR f x - x) ↔ 2 * (x / gapR f x - ((x / gapR f x).floor : Rat)) = 1 := by
    rw [eu]
    unfold dnR
    generalize gapR f x = g at *
    generalize x / g = q at *
    generalize (q.floor : Rat) = n at *
    subst e
    constructor
    · intro h
      have : (2 * (q - n) - 1) * g = 0 := by grind
      grind
    · intro h; grind
  have c2 : (x - dnR f x ≤ upR f x - x) ↔ 2 * (x / gapR f x - ((x / gapR f x).floor : Rat)) ≤ 1 := by
    rw [eu]
    unfold dnR
    generalize gapR f x = g at *
    generalize x / g = q at *
    generalize (q.floor : Rat) = n at *
    subst e
    have e1 : (2 * (q - n) - 1) * g = (q * g - n * g) - (n * g + g - q * g) := by grind
    constructor
    · intro h
      by_cases c : 2 * (q - n) ≤ 1
      · exact c
      · have := Rat.mul_pos (show 0 < 2 * (q - n) - 1 by grind) g0
        grind
    · intro h
      have := Rat.mul_nonneg (show 0 ≤ 1 - 2 * (q - n) by grind) (Rat.le_of_lt g0)
      have e2 : (1 - 2 * (q - n)) * g = (n * g + g - q * g) - (q * g - n * g) := by grind
      grind
  simp only [c1, c2]
  have e3 : upR f x = (((x / gapR f x).floor + 1 : Int) : Rat) * gapR f x := by unfold upR; rw [hu]
  unfold rndR
  simp only [rnd, nearI]
  by_cases q1 : 2 * (x / gapR f x - ((x / gapR f x).floor : Rat)) = 1
  · rw [if_pos q1, if_pos q1]
    split
    · rfl
    · exact e3.symm
  · rw [if_neg q1, if_neg q1]
    by_cases q2 : 2 * (x / gapR f x - ((x / gapR f x).floor : Rat)) ≤ 1
    · rw [if_pos q2, if_pos (by grind)]
      rfl
    · rw [if_neg q2, if_neg (by grind)]
      exact e3.symm
theorem near_same {f : Fm} {x : Rat} (hf : FmOk f) (e : dnR f x = upR f x) : rndR f .near x = dnR f x := by
  have a := dn_le x hf
  have b := le_up x hf
  have xe : x = dnR f x := by grind
  have g0 := gap_pos hf x
  have gn : gapR f x ≠ 0 := by grind
  have q : x / gapR f x = ((x / gapR f x).floor : Rat) := by
    have ex : x = x / gapR f x * gapR f x := by rw [Rat.div_def]; grind
    have xd : x = ((x / gapR f x).floor : Rat) * gapR f x := xe
    generalize ((x / gapR f x).floor : Rat) = t at xd ⊢
    generalize x / gapR f x = u at ex ⊢
    have : (u - t) * gapR f x = 0 := by grind
    generalize gapR f x = g at this gn
    clear ex xd xe e a b g0
    grind
  unfold rndR dnR
  congr 2
  have := rnd_int .near (x / gapR f x).floor
  rw [← q] at this
  exact this
end Ra
end
section
set_option Elab.async false
set_option linter.all false
set_option maxRecDepth 100000
set_option maxHeartbeats 1000000
/-! rows; monotony; neighbours -/
namespace Ra
open PySem PySem.Spec PyProof.Rows L2 Mi
theorem last_le {x d : Rat} : ∀ {L : List Rat}, L.Pairwise (· < ·) → d ∈ L → d ≤ x → (∀ r ∈ L, r ≤ x → r ≤ d) → (L.filter fun r => decide (r ≤ x)).getLast? = some d := by
  intro L
  induction L with
  | nil => intro _ h; cases h
  | cons a L ih =>
    intro hp hd hx hm
    obtain ⟨ha, hp⟩ := List.pairwise_cons.mp hp
    by_cases e : d = a
    · subst e
      have : L.filter (fun r => decide (r ≤ x)) = [] := by
        rw [List.filter_eq_nil_iff]
        intro r hr
        have l := ha r hr
        have := hm r (List.mem_cons_of_mem _ hr)
        simp only [decide_eq_true_eq]
        intro q
        have := this q
        grind
      rw [List.filter_cons_of_pos (by simpa using hx), this]
      rfl
    · have hd : d ∈ L := by
        rcases List.mem_cons.mp hd with z | z
        · exact absurd z e
        · exact z
      have ih := ih hp hd hx fun r hr => hm r (List.mem_cons_of_mem _ hr)
      have l := ha d hd
      rw [List.filter_cons_of_pos (by simp only [decide_eq_true_eq]; grind), List.getLast?_cons, ih]
      rfl
theorem first_ge {x d : Rat} : ∀ {L : List Rat}, L.Pairwise (· < ·) → d ∈ L → x ≤ d → (∀ r ∈ L, x ≤ r → d ≤ r) → (L.filter fun r => decide (x ≤ r)).head? = some d := by
  intro L
  induction L with
  | nil => intro _ h; cases h
  | cons a L ih =>
    intro hp hd hx hm
    obtain ⟨ha, hp⟩ := List.pairwise_cons.mp hp
    by_cases e : d = a
    · subst e
      rw [List.filter_cons_of_pos (by simpa using hx)]
      rfl
    · have hd : d ∈ L := by
        rcases List.mem_cons.mp hd with z | z
        · exact absurd z e
        · exact z
      have l := ha d hd
      have ih := ih hp hd hx fun r hr => hm r (List.mem_cons_of_mem _ hr)
      have n : ¬ x ≤ a := fun q => by
        have := hm a List.mem_cons_self q
        grind
      rw [List.filter_cons_of_neg (by simpa using n)]
      exact ih
structure Row (f : Fm) (xs : List Rat) : Prop where
  so : xs.Pairwise (· < ·)
  mem : ∀ q, q ∈ xs ↔ IsNum f q
noncomputable def every (f : Fm) (xs : List Rat) : List Rat := [-topR f] ++ xs ++ [topR f]
theorem Row.ext {f : Fm} {xs : List Rat} (h : Row f xs) (q : Rat) : q ∈ every f xs ↔ Ext f q := by
  unfold every Ext
  rw [← h.mem]
  simp
  grind
theorem num_btw {f : Fm} {r : Rat} (hf : FmOk f) (h : IsNum f r) : -topR f < r ∧ r < topR f := by
  have := num_lt hf h
  have a := (abs_le (x := r) (o := r.abs)).mp Rat.le_refl
  grind
theorem Row.every {f : Fm} {xs : List Rat} (hf : FmOk f) (h : Row f xs) : (every f xs).Pairwise (· < ·) := by
  have t := top_pos hf
  unfold Ra.every
  rw [List.pairwise_append, List.pairwise_append]
  refine ⟨⟨by simp, h.so, fun a ha b hb => ?_⟩, by simp, fun a ha b hb => ?_⟩
  · rw [List.mem_singleton.mp ha]
    exact (num_btw hf ((h.mem b).mp hb)).1
  · rw [List.mem_singleton.mp hb]
    rcases List.mem_append.mp ha with q | q
    · rw [List.mem_singleton.mp q]; grind
    · exact (num_btw hf ((h.mem a).mp q)).2
theorem Row.below {f : Fm} {xs : List Rat} {x : Rat} (hf : FmOk f) (h : Row f xs) (l : x.abs < topR f) : ((Ra.every f xs).filter fun r => decide (r ≤ x)).getLast? = some (dnR f x) :=
  last_le (h.every hf) ((h.ext _).mpr (dn_ext hf l)) (dn_le x hf) fun r hr q => Ra.below hf l ((h.ext _).mp hr) q
theorem Row.above {f : Fm} {xs : List Rat} {x : Rat} (hf : FmOk f) (h : Row f xs) (l : x.abs < topR f) : ((Ra.every f xs).filter fun r => decide (x ≤ r)).head? = some (upR f x) :=
  first_ge (h.every hf) ((h.ext _).mpr (up_ext hf l)) (le_up x hf) fun r hr q => Ra.above hf l ((h.ext _).mp hr) q
theorem most_num {f : Fm} (hf : FmOk f) : IsNum f (mostR f) := by
  have hb : 0 < f.b := by have := hf.b0; omega
  have n := most_nn f hf
  have a : (mostR f).abs = mostR f := by rw [abs_is']; grind
  refine ⟨by rw [a]; exact Rat.le_refl, num_of (m := ((f.b ^ f.k.toNat - 1 : Nat) : Int)) (E := f.hi) hf (by rw [Rat.intCast_natCast]; rfl) hf.lh ?_⟩
  rw [a]
  exact most_lt hf
theorem le_last {L : List Rat} (h : L.Pairwise (· < ·)) {d : Rat} (hd : d ∈ L) (m : ∀ r ∈ L, r ≤ d) : L.getLast? = some d := by
  have := last_le h hd Rat.le_refl fun r hr _ => m r hr
  rwa [List.filter_eq_self.mpr fun r hr => by simpa using m r hr] at this
theorem Row.last {f : Fm} {xs : List Rat} (hf : FmOk f) (h : Row f xs) : xs.getLast? = some (mostR f) :=
  le_last h.so ((h.mem _).mpr (most_num hf)) fun r hr => by
    have := ((h.mem r).mp hr).le
    have a := (abs_le (x := r) (o := r.abs)).mp Rat.le_refl
    grind
theorem zero_num {f : Fm} (hf : FmOk f) : IsNum f 0 := by
  have n := most_nn f hf
  refine ⟨by rw [abs_is']; grind, 0, ?_⟩
  have : ((0 : Int) : Rat) = 0 := rfl
  rw [this, Rat.zero_mul]
/-- order is kept -/
theorem rnd_mono {f : Fm} {w : Wy} {x y : Rat} (hf : FmOk f) (lx : x.abs < topR f) (ly : y.abs < topR f) (le : x ≤ y) : rndR f w x ≤ rndR f w y := by
  have dx := dn_le x hf
  have dy := dn_le y hf
  have ux := le_up x hf
  have uy := le_up y hf
  have exd := dn_ext hf lx
  have exu := up_ext hf lx
  have eyd := dn_ext hf ly
  have eyu := up_ext hf ly
  have d1 : dnR f x ≤ dnR f y := below hf ly exd (by grind)
  have u1 : upR f x ≤ upR f y := above hf lx eyu (by grind)
  cases w with
  | down => exact d1
  | up => exact u1
  | zero =>
    rw [rnd_zero hf, rnd_zero hf]
    have e0 : Ext f 0 := .inl (zero_num hf)
    by_cases hx : 0 ≤ x
    · rw [if_pos hx, if_pos (by grind)]; exact d1
    · rw [if_neg hx]
      by_cases hy : 0 ≤ y
      · rw [if_pos hy]
        have a := above hf lx e0 (by grind)
        have b := below hf ly e0 hy
        grind
      · rw [if_neg hy]; exact u1
  | near =>
    have nr : ∀ z, z.abs < topR f → (rndR f .near z = dnR f z ∧ z - dnR f z ≤ upR f z - z) ∨ (rndR f .near z = upR f z ∧ upR f z - z ≤ z - dnR f z) := fun z lz => by
      by_cases e : dnR f z = upR f z
      · left
        have a := dn_le z hf
        have b := le_up z hf
        exact ⟨near_same hf e, by grind⟩
      · have ⟨_, h⟩ := rnd_nearE hf e
        rw [h]
        by_cases c1 : z - dnR f z = upR f z - z
        · rw [if_pos c1]
          split
          · exact .inl ⟨rfl, by grind⟩
          · exact .inr ⟨rfl, by grind⟩
        · rw [if_neg c1]
          by_cases c2 : z - dnR f z ≤ upR f z - z
          · rw [if_pos c2]; exact .inl ⟨rfl, c2⟩
          · rw [if_neg c2]; exact .inr ⟨rfl, by grind⟩
    by_cases xy : x = y
    · rw [xy]; exact Rat.le_refl
    · by_cases sep : upR f x ≤ y
      · have s := below hf ly exu sep
        rcases nr x lx with ⟨a, _⟩ | ⟨a, _⟩ <;> rcases nr y ly with ⟨b, _⟩ | ⟨b, _⟩ <;> rw [a, b] <;> grind
      · have q1 : dnR f y ≤ x := by
          by_cases q : dnR f y ≤ x
          · exact q
          · have := above hf lx eyd (by grind)
            grind
        have d2 := below hf lx eyd q1
        have u2 := above hf ly exu (by grind)
        have de : dnR f x = dnR f y := by grind
        have ue : upR f x = upR f y := by grind
        rcases nr x lx with ⟨a, a2⟩ | ⟨a, a2⟩ <;> rcases nr y ly with ⟨b, b2⟩ | ⟨b, b2⟩ <;> rw [a, b] <;> grind
theorem round_mono {f : Fm} {w : Wy} {x y r s : Rat} (hf : FmOk f) (ox : Ok x) (oy : Ok y) (le : x ≤ y) (hr : roundR f w x = some r) (hs : roundR f w y = some s) : r ≤ s := by
  have near : ∀ {z t : Rat}, Ok z → roundR f w z = some t → z.abs < topR f := fun {z t} o h => by
    by_cases q : z.abs < topR f
    · exact q
    · rw [round_far hf o (by grind)] at h; cases h
  have lx := near ox hr
  have ly := near oy hs
  have m := rnd_mono (w := w) hf lx ly le
  rw [roundR_is hf lx] at hr
  rw [roundR_is hf ly] at hs
  split at hr
  · cases hr
  · split at hs
    · cases hs
    · injection hr with hr
      injection hs with hs
      rw [← hr, ← hs]
      exact m
/-- two numbers are at least the least one apart -/
theorem num_gap {f : Fm} {r s : Rat} (hf : FmOk f) (hr : IsNum f r) (hs : IsNum f s) (l : r < s) : r + pw f.b f.lo ≤ s := by
  have p := pw_pos (b := f.b) (by have := hf.b0; omega) f.lo
  obtain ⟨i, rfl⟩ := num_lo hf hr
  obtain ⟨j, rfl⟩ := num_lo hf hs
  have l2 : i < j := Rat.intCast_lt_intCast.mp ((Rat.mul_lt_mul_right p).mp l)
  have := Rat.mul_le_mul_of_nonneg_right (int_le.mpr (show i + 1 ≤ j by omega)) (Rat.le_of_lt p)
  rw [cast_add1] at this
  grind
theorem pw_top {f : Fm} (hf : FmOk f) : mostR f + pw f.b f.lo ≤ topR f := by
  have hb : 0 < f.b := by have := hf.b0; omega
  have h1 := pw_mono (b := f.b) hb hf.lh
  have e : topR f = mostR f + pw f.b f.hi := by
    unfold topR mostR
    rw [pw_k hf]
    have : ((f.b ^ f.k.toNat : Nat) : Rat) = ((f.b ^ f.k.toNat - 1 : Nat) : Rat) + 1 := by
      have p := Nat.pow_pos (n := f.k.toNat) hb
      have : f.b ^ f.k.toNat = (f.b ^ f.k.toNat - 1) + 1 := by omega
      conv => lhs; rw [this]
      rw [Rat.natCast_add]
      rfl
    rw [this]
    grind
  grind
theorem step_near {f : Fm} {x y : Rat} (hf : FmOk f) (h : IsNum f x) (l1 : x - pw f.b f.lo < y) (l2 : y < x + pw f.b f.lo) : y.abs < topR f := by
  have t := pw_top hf
  have a := (abs_le (x := x) (o := mostR f)).mp h.le
  rw [abs_is']
  split <;> grind
/-- the next one up -/
theorem Row.up {f : Fm} {xs : List Rat} {x y : Rat} {i : Nat} (hf : FmOk f) (h : Row f xs) (e : xs[i]? = some x) (l1 : x < y) (l2 : y < x + pw f.b f.lo) : roundR f .up y = xs[i + 1]? := by
  have nx : IsNum f x := (h.mem x).mp (List.mem_of_getElem? e)
  have p := pw_pos (b := f.b) (by have := hf.b0; omega) f.lo
  have ly : y.abs < topR f := step_near hf nx (by grind) l2
  have eu := up_ext hf ly
  have uy := le_up y hf
  have ml : mostR f < topR f := most_lt hf
  have am := (abs_le (x := x) (o := mostR f)).mp nx.le
  rw [roundR_is hf ly, rnd_up]
  have so := List.pairwise_iff_getElem.mp h.so
  obtain ⟨hi, ei⟩ := List.getElem?_eq_some_iff.mp e
  by_cases hl : i + 1 < xs.length
  · rw [List.getElem?_eq_getElem hl]
    have s1 : x < xs[i + 1] := by rw [← ei]; exact so i (i + 1) hi hl (by omega)
    have ns : IsNum f xs[i + 1] := (h.mem _).mp (List.getElem_mem hl)
    have g := num_gap hf nx ns s1
    have le := Ra.above hf ly (.inl ns) (by grind)
    have bs := num_btw hf ns
    have nu : IsNum f (upR f y) := by
      rcases eu with q | q | q
      · exact q
      · grind
      · grind
    obtain ⟨j, hj, ej⟩ := List.getElem_of_mem ((h.mem _).mpr nu)
    have ge : xs[i + 1] ≤ upR f y := by
      rcases Nat.lt_trichotomy j (i + 1) with q | q | q
      · exfalso
        rcases Nat.lt_trichotomy j i with z | z | z
        · have := so j i hj hi z
          grind
        · subst z; grind
        · omega
      · subst q; grind
      · have := so (i + 1) j hl hj q
        grind
    have eq : upR f y = xs[i + 1] := by grind
    rw [if_neg, eq]
    rw [eq]
    grind
  · rw [List.getElem?_eq_none (by omega)]
    rcases eu with q | q | q
    · exfalso
      obtain ⟨j, hj, ej⟩ := List.getElem_of_mem ((h.mem _).mpr q)
      rcases Nat.lt_trichotomy j i with z | z | z
      · have := so j i hj hi z
        grind
      · subst z; grind
      · omega
    · rw [if_pos (.inl q)]
    · rw [if_pos (.inr q)]
theorem Row.down {f : Fm} {xs : List Rat} {x y : Rat} {i : Nat} (hf : FmOk f) (h : Row f xs) (e : xs[i]? = some x) (l1 : y < x) (l2 : x - pw f.b f.lo < y) : roundR f .down y = if 0 < i then xs[i - 1]? else none := by
  have nx : IsNum f x := (h.mem x).mp (List.mem_of_getElem? e)
  have p := pw_pos (b := f.b) (by have := hf.b0; omega) f.lo
  have ly : y.abs < topR f := step_near hf nx l2 (by grind)
  have eu := dn_ext hf ly
  have uy := dn_le y hf
  have ml : mostR f < topR f := most_lt hf
  have am := (abs_le (x := x) (o := mostR f)).mp nx.le
  rw [roundR_is hf ly, rnd_dn]
  have so := List.pairwise_iff_getElem.mp h.so
  obtain ⟨hi, ei⟩ := List.getElem?_eq_some_iff.mp e
  by_cases hl : 0 < i
  · have hm : i - 1 < xs.length := by omega
    rw [if_pos hl, List.getElem?_eq_getElem hm]
    have s1 : xs[i - 1] < x := by rw [← ei]; exact so (i - 1) i hm hi (by omega)
    have ns : IsNum f xs[i - 1] := (h.mem _).mp (List.getElem_mem hm)
    have g := num_gap hf ns nx s1
    have le := Ra.below hf ly (.inl ns) (by grind)
    have bs := num_btw hf ns
    have nu : IsNum f (dnR f y) := by
      rcases eu with q | q | q
      · exact q
      · grind
      · grind
    obtain ⟨j, hj, ej⟩ := List.getElem_of_mem ((h.mem _).mpr nu)
    have ge : dnR f y ≤ xs[i - 1] := by
      rcases Nat.lt_trichotomy j (i - 1) with q | q | q
      · have := so j (i - 1) hj hm q
        grind
      · subst q; grind
      · exfalso
        rcases Nat.lt_trichotomy j i with z | z | z
        · omega
        · subst z; grind
        · have := so i j hi hj z
          grind
    have eq : dnR f y = xs[i - 1] := by grind
    rw [if_neg, eq]
    rw [eq]
    grind
  · rw [if_neg hl]
    rcases eu with q | q | q
    · exfalso
      obtain ⟨j, hj, ej⟩ := List.getElem_of_mem ((h.mem _).mpr q)
      rcases Nat.lt_trichotomy j i with z | z | z
      · omega
      · subst z; grind
      · have := so i j hi hj z
        grind
    · rw [if_pos (.inl q)]
    · rw [if_pos (.inr q)]
end Ra
end
section
set_option Elab.async false
set_option linter.all false
set_option maxRecDepth 100000
set_option maxHeartbeats 1000000
/-! the row, from the numbers laid one by one -/
namespace Ra
open PySem PySem.Spec PyProof.Rows L2 Mi
def Laid (f : Fm) (q : Rat) : Prop := q = 0 ∨ ∃ (e : Int) (m : Nat), f.lo ≤ e ∧ e ≤ f.hi ∧ 1 ≤ m ∧ m < f.b ^ f.k.toNat ∧ (q = (m : Rat) * pw f.b e ∨ q = -((m : Rat) * pw f.b e))
theorem laid_num {f : Fm} {e : Int} {m : Nat} (hf : FmOk f) (h1 : f.lo ≤ e) (h2 : e ≤ f.hi) (h3 : m < f.b ^ f.k.toNat) : IsNum f ((m : Rat) * pw f.b e) := by
  have hb : 0 < f.b := by have := hf.b0; omega
  have p := pw_pos hb e
  have nn : 0 ≤ (m : Rat) * pw f.b e := Rat.mul_nonneg (nat_le.mpr (Nat.zero_le _)) (Rat.le_of_lt p)
  have a : ((m : Rat) * pw f.b e).abs = (m : Rat) * pw f.b e := by rw [abs_is']; grind
  have l1 : (m : Rat) * pw f.b e ≤ ((f.b ^ f.k.toNat - 1 : Nat) : Rat) * pw f.b e := Rat.mul_le_mul_of_nonneg_right (nat_le.mpr (by omega)) (Rat.le_of_lt p)
  have l2 : ((f.b ^ f.k.toNat - 1 : Nat) : Rat) * pw f.b e ≤ mostR f := Rat.mul_le_mul_of_nonneg_left (pw_mono hb h2) (nat_le.mpr (Nat.zero_le _))
  refine ⟨by rw [a]; exact Rat.le_trans l1 l2, num_of (m := (m : Int)) (E := e) hf (by rw [Rat.intCast_natCast]) h1 ?_⟩
  rw [a, pw_k hf, Rat.mul_comm, Rat.mul_comm (((f.b ^ f.k.toNat : Nat) : Rat))]
  exact Rat.mul_lt_mul_of_pos_left (Rat.natCast_lt_natCast.mpr h3) p
theorem laid_is {f : Fm} (hf : FmOk f) (q : Rat) : Laid f q ↔ IsNum f q := by
  have hb : 0 < f.b := by have := hf.b0; omega
  constructor
  · rintro (h | ⟨e, m, h1, h2, h3, h4, h5 | h5⟩)
    · rw [h]; exact zero_num hf
    · rw [h5]; exact laid_num hf h1 h2 h4
    · rw [h5]; exact (laid_num hf h1 h2 h4).neg
  · intro h
    have ⟨ex, eh⟩ := ex_of hf (num_lt hf h)
    obtain ⟨l, m, hm⟩ := h
    have g0 : 0 < gapR f q := gap_pos hf q
    by_cases z : m = 0
    · left
      rw [hm, z]
      have : ((0 : Int) : Rat) = 0 := rfl
      rw [this, Rat.zero_mul]
    · right
      have lt := ex.2.1
      rw [pw_k hf] at lt
      have lt : q.abs < ((f.b ^ f.k.toNat : Nat) : Rat) * gapR f q := lt
      have ab : ∀ n : Nat, (n : Rat) * gapR f q < ((f.b ^ f.k.toNat : Nat) : Rat) * gapR f q → n < f.b ^ f.k.toNat := fun n h => Rat.natCast_lt_natCast.mp ((Rat.mul_lt_mul_right g0).mp h)
      have al := (abs_le (x := q) (o := q.abs)).mp Rat.le_refl
      refine ⟨exO f q, m.natAbs, ex.1, eh, by omega, ?_, ?_⟩
      · refine ab _ ?_
        by_cases s : 0 ≤ m
        · have : ((m.natAbs : Nat) : Rat) = (m : Rat) := by rw [← Rat.intCast_natCast]; congr 1; omega
          rw [this, ← hm]
          grind
        · have : ((m.natAbs : Nat) : Rat) = -(m : Rat) := by rw [← Rat.intCast_natCast, ← Rat.intCast_neg]; congr 1; omega
          rw [this, Rat.neg_mul, ← hm]
          grind
      · by_cases s : 0 ≤ m
        · left
          have : ((m.natAbs : Nat) : Rat) = (m : Rat) := by rw [← Rat.intCast_natCast]; congr 1; omega
          rw [this]
          exact hm
        · right
          have : ((m.natAbs : Nat) : Rat) = -(m : Rat) := by rw [← Rat.intCast_natCast, ← Rat.intCast_neg]; congr 1; omega
          rw [this, Rat.neg_mul, Rat.neg_neg]
          exact hm
def btm (f : Fm) : Nat := f.b ^ (-f.lo).toNat
theorem btm_lo {f : Fm} (hf : FmOk f) : ∃ N : Nat, pw f.b f.lo * (btm f : Rat) = (N : Rat) := by
  have hb : 0 < f.b := by have := hf.b0; omega
  by_cases h : 0 ≤ f.lo
  · refine ⟨f.b ^ f.lo.natAbs, ?_⟩
    have : (-f.lo).toNat = 0 := by omega
    unfold btm pw
    rw [this, if_pos h, Nat.pow_zero]
    have o : ((1 : Nat) : Rat) = 1 := rfl
    rw [o, Rat.mul_one]
  · refine ⟨1, ?_⟩
    unfold btm
    rw [← pw_add hb]
    have : f.lo + ((-f.lo).toNat : Int) = 0 := by omega
    rw [this]
    unfold pw
    rw [if_pos (by omega)]
    rfl
def topI (B : Nat) (q : Rat) : Int := (q.num * (B : Int)).fdiv (q.den : Int)
theorem top_is {f : Fm} {q : Rat} (hf : FmOk f) (h : IsNum f q) : q.num * (btm f : Int) = topI (btm f) q * (q.den : Int) ∧ q * (btm f : Rat) = (topI (btm f) q : Rat) := by
  obtain ⟨j, hj⟩ := num_lo hf h
  obtain ⟨N, hN⟩ := btm_lo hf
  have e : q * (btm f : Rat) = ((j * (N : Int) : Int) : Rat) := by
    rw [Rat.intCast_mul, Rat.intCast_natCast, ← hN, ← Rat.mul_assoc, ← hj]
  have e2 : q.num * (btm f : Int) = j * (N : Int) * (q.den : Int) := by
    rw [← Rat.intCast_inj, Rat.intCast_mul, Rat.intCast_mul, num_is, Rat.intCast_natCast, Rat.intCast_natCast, ← e]
    grind
  have e3 : topI (btm f) q = j * (N : Int) := by
    unfold topI
    rw [e2]
    exact Int.mul_fdiv_cancel _ (den0 q)
  rw [e3]
  exact ⟨e2, e⟩
theorem btm_pos {f : Fm} (hf : FmOk f) : 0 < btm f := Nat.pow_pos (by have := hf.b0; omega)
theorem back_is {f : Fm} {q : Rat} (hf : FmOk f) (h : IsNum f q) : Rat.divInt (topI (btm f) q) (btm f) = q := by
  have e := (top_is hf h).2
  have n := nat_ne (btm_pos hf)
  rw [div_eq, ← e, Rat.intCast_natCast]
  generalize (btm f : Rat) = t at n
  clear e
  rw [Rat.div_def]
  grind
theorem div_lt {B : Nat} {a b : Int} (hB : 0 < B) (h : a < b) : Rat.divInt a B < Rat.divInt b B := by
  have p : (0 : Rat) < (B : Rat) := by
    have := (Rat.natCast_lt_natCast (a := 0) (b := B)).mpr hB
    exact this
  rw [div_eq, div_eq, Rat.intCast_natCast, Rat.div_def, Rat.div_def]
  exact Rat.mul_lt_mul_of_pos_right (Rat.intCast_lt_intCast.mpr h) (Rat.inv_pos.mpr p)
theorem row_of {f : Fm} {qs : List Rat} {ts : List Int} (hf : FmOk f) (nd : qs.Nodup) (mem : ∀ q, q ∈ qs ↔ Laid f q) (pm : ts.Perm (qs.map (topI (btm f)))) (so : ts.Pairwise (· ≤ ·)) : Row f (ts.map fun t => Rat.divInt t (btm f)) := by
  have mem' : ∀ q, q ∈ qs ↔ IsNum f q := fun q => (mem q).trans (laid_is hf q)
  have nt : ts.Nodup := by
    refine pm.nodup_iff.mpr ?_
    unfold List.Nodup
    rw [List.pairwise_map]
    have : ∀ a b, a ∈ qs → b ∈ qs → a ≠ b → topI (btm f) a ≠ topI (btm f) b := fun a b ha hb ne z => ne (by
      rw [← back_is hf ((mem' a).mp ha), z, back_is hf ((mem' b).mp hb)])
    exact List.Pairwise.imp_of_mem (fun ha hb ne => this _ _ ha hb ne) nd
  have lt : ts.Pairwise (· < ·) := by
    have := List.pairwise_and_iff.mpr ⟨so, nt⟩
    exact this.imp fun h => by have := h.1; have := h.2; omega
  refine ⟨?_, fun q => ?_⟩
  · rw [List.pairwise_map]
    exact lt.imp fun h => div_lt (btm_pos hf) h
  · rw [← mem', List.mem_map]
    constructor
    · rintro ⟨t, ht, rfl⟩
      obtain ⟨q, hq, rfl⟩ := List.mem_map.mp (pm.mem_iff.mp ht)
      rw [back_is hf ((mem' q).mp hq)]
      exact hq
    · intro hq
      exact ⟨topI (btm f) q, pm.mem_iff.mpr (List.mem_map.mpr ⟨q, hq, rfl⟩), back_is hf ((mem' q).mp hq)⟩
/-! the keys -/
def putQ (qs : List Rat) (q : Rat) : List Rat := if q ∈ qs then qs else qs ++ [q]
theorem putQ_nd {qs : List Rat} {q : Rat} (h : qs.Nodup) : (putQ qs q).Nodup := by
  unfold putQ
  split
  · exact h
  · rename_i n
    rw [List.nodup_append]
    exact ⟨h, by simp, fun a ha b hb z => n (by rw [← List.mem_singleton.mp hb, ← z]; exact ha)⟩
theorem putQ_mem {qs : List Rat} {q a : Rat} : a ∈ putQ qs q ↔ a ∈ qs ∨ a = q := by
  unfold putQ
  split
  · rename_i h
    exact ⟨.inl, fun z => z.elim id (fun z => z ▸ h)⟩
  · simp
theorem putQ_len {qs : List Rat} {q : Rat} : qs.length ≤ (putQ qs q).length ∧ (putQ qs q).length ≤ qs.length + 1 := by
  unfold putQ
  split <;> simp
def kq (q : Rat) : List Int := [q.num, (q.den : Int)]
theorem kq_inj {a b : Rat} (h : kq a = kq b) : a = b := by
  unfold kq at h
  simp only [List.cons.injEq, and_true] at h
  exact Rat.ext h.1 (by omega)
end Ra
end
section
set_option Elab.async false
set_option linter.all false
set_option maxRecDepth 100000
set_option maxHeartbeats 2000000
/-! texts as lists of code points -/
namespace Tx
open PySem PySem.Spec PyProof.Rows L2 Mi
abbrev sS (l : List Nat) : Str := ⟨l.toArray⟩
abbrev tS (l : List Nat) : PV := .str (sS l)
def AS (l : List Nat) : Prop := ∀ c ∈ l, c < 128
def isD (c : Nat) : Bool := decide (48 ≤ c) && decide (c ≤ 57)
theorem sLen (l : List Nat) : (sS l).length = l.length := by simp [sS, Str.length]
theorem tlen {l : List Nat} {S : Sto} (hl : l.length ≤ 1000) : fLen [tS l] S = .ok (.int (l.length : Int)) S := by
  show (if (sS l).length ≤ lim then Res.ok (PV.int (((sS l).length : Nat) : Int)) S else .bad) = _
  rw [if_pos (by rw [sLen]; unfold lim; omega), sLen]
theorem tix {l : List Nat} {i : Nat} {S : Sto} (h : i < l.length) (hl : l.length ≤ 1000) : fIx (tS l) (.int (i : Nat)) S = .ok (tS [l[i]]) S := by
  show (match atI (sS l).cps.toList ((i : Nat) : Int) with | some c => if (sS l).length ≤ lim then Res.ok (PV.str ⟨#[c]⟩) S else .bad | none => .bad) = _
  have e : atI (sS l).cps.toList ((i : Nat) : Int) = some l[i] := by
    show atI l ((i : Nat) : Int) = _
    unfold atI ixN
    rw [if_pos (by omega), if_pos (by omega)]
    simp [h]
  rw [e]
  show (if (sS l).length ≤ lim then Res.ok (PV.str ⟨#[l[i]]⟩) S else .bad) = _
  rw [if_pos (by rw [sLen]; unfold lim; omega)]
theorem digs : ("0123456789" : Str) = sS [48, 49, 50, 51, 52, 53, 54, 55, 56, 57] := by kernel_rfl
theorem tin (c : Nat) (S : Sto) : fInS false (tS [c]) (.str ("0123456789" : Str)) S = .ok (.bl (isD c)) S := by
  rw [digs]
  show Res.ok (PV.bl (!(Builtin.Str.occurrences (sS [48, 49, 50, 51, 52, 53, 54, 55, 56, 57]) (sS [c]) 0 (sS [48, 49, 50, 51, 52, 53, 54, 55, 56, 57]).length 1).isEmpty)) S = _
  rw [SX.in_one]
  congr 2
  unfold isD
  rw [← Bool.decide_and]
  refine decide_eq_decide.mpr ?_
  simp only [List.mem_cons, List.not_mem_nil, or_false]
  omega
theorem AS.ok {l : List Nat} (h : AS l) : PyData.strOk (sS l) = true := by
  unfold PyData.strOk
  show (l.toArray).all _ = true
  rw [List.all_toArray, List.all_eq_true]
  intro c hc
  have := h c hc
  exact decide_eq_true (by omega)
theorem teq {a b : List Nat} (neg : Bool) (ha : AS a) (hb : AS b) (S : Sto) : fEq neg (tS a) (tS b) S = .ok (.bl (if neg = true then !decide (a = b) else decide (a = b))) S := by
  have sh : ∀ {l : List Nat}, AS l → SeqAt.shaped (.str (sS l)) = true := fun {l} h => by
    unfold SeqAt.shaped
    rw [PyData.canLay0, h.ok]
    rfl
  show (if SeqAt.shaped (.str (sS a)) = true ∧ SeqAt.shaped (.str (sS b)) = true then Res.ok (PV.bl (if neg = true then !PyData.eqv (.str (sS a)) (.str (sS b)) else PyData.eqv (.str (sS a)) (.str (sS b)))) S else .bad) = _
  rw [if_pos ⟨sh ha, sh hb⟩]
  have e : PyData.eqv (.str (sS a)) (.str (sS b)) = decide (a = b) := by
    rw [PyData.eqv]
    exact SX.S_beq_eq
  rw [e]
theorem cut_ab {l : List Nat} {a b : Nat} : cutS (sS l) (some (a : Int)) (some (b : Int)) = sS ((l.drop (min a l.length)).take (min b l.length - min a l.length)) := by
  unfold cutS
  rw [sLen, HT.sIx_nat, HT.sIx_nat]
theorem tsl_ab {l : List Nat} {a b : Nat} {S : Sto} (h : a ≤ b) (ha : a ≤ l.length) (hl : l.length ≤ 1000) : fSl false (tS l) (some (a : Int)) (some (b : Int)) S = .ok (tS ((l.drop a).take (b - a))) S := by
  show (if (sS l).length ≤ lim then Res.ok (PV.str (cutS (sS l) (some (a : Int)) (some (b : Int)))) S else .bad) = _
  rw [if_pos (by rw [sLen]; unfold lim; omega), cut_ab, Nat.min_eq_left ha]
  by_cases hb : b ≤ l.length
  · rw [Nat.min_eq_left hb]
  · rw [Nat.min_eq_right (by omega)]
    have e1 : (l.drop a).take (l.length - a) = l.drop a := List.take_of_length_le (by rw [List.length_drop]; omega)
    have e2 : (l.drop a).take (b - a) = l.drop a := List.take_of_length_le (by rw [List.length_drop]; omega)
    rw [e1, e2]
theorem tsl_from {l : List Nat} {a : Nat} {S : Sto} (ha : a ≤ l.length) (hl : l.length ≤ 1000) : fSl false (tS l) (some (a : Int)) none S = .ok (tS (l.drop a)) S := by
  show (if (sS l).length ≤ lim then Res.ok (PV.str (cutS (sS l) (some (a : Int)) none)) S else .bad) = _
  rw [if_pos (by rw [sLen]; unfold lim; omega)]
  unfold cutS
  rw [sLen, HT.sIx_nat, Nat.min_eq_left ha]
  have e : HT.sIx l.length l.length none = l.length := rfl
  rw [e]
  show Res.ok (PV.str (sS ((l.drop a).take (l.length - a)))) S = _
  rw [List.take_of_length_le (by rw [List.length_drop]; omega)]
theorem tsl_to {l : List Nat} {b : Nat} {S : Sto} (hl : l.length ≤ 1000) : fSl false (tS l) none (some (b : Int)) S = .ok (tS (l.take b)) S := by
  show (if (sS l).length ≤ lim then Res.ok (PV.str (cutS (sS l) none (some (b : Int)))) S else .bad) = _
  rw [if_pos (by rw [sLen]; unfold lim; omega)]
  unfold cutS
  rw [sLen, HT.sIx_nat]
  have e : HT.sIx l.length 0 none = 0 := rfl
  rw [e]
  show Res.ok (PV.str (sS ((l.drop 0).take (min b l.length - 0)))) S = _
  rw [List.drop_zero, Nat.sub_zero]
  by_cases hb : b ≤ l.length
  · rw [Nat.min_eq_left hb]
  · rw [Nat.min_eq_right (by omega), List.take_of_length_le (Nat.le_refl _), List.take_of_length_le (by omega)]
theorem tcat {a b : List Nat} {S : Sto} (h : a.length + b.length ≤ 1000) : fAdd false (tS a) (tS b) S = .ok (tS (a ++ b)) S := by
  show (if (sS a).length + (sS b).length ≤ lim then Res.ok (PV.str (sS a ++ sS b)) S else .bad) = _
  rw [if_pos (by rw [sLen, sLen]; unfold lim; omega), SX.S_cat]
abbrev AD (l : List Nat) : Prop := NumText.AllDigits l
abbrev val (l : List Nat) : Nat := NumText.digitsVal l
theorem tint {l : List Nat} {S : Sto} (h : AD l) (hne : l ≠ []) (hl : l.length ≤ 640) : fIntS [tS l] S = .ok (.int (val l : Nat)) S := by
  show (match PySem.intText? (sS l) with | some n => if (sS l).length ≤ 640 then Res.ok (PV.int n) S else .bad | none => .bad) = _
  rw [PySem.intText_digits (x := sS l) h hne (by rw [sLen]; omega)]
  show (if (sS l).length ≤ 640 then Res.ok (PV.int _) S else .bad) = _
  rw [if_pos (by rw [sLen]; exact hl)]
theorem tint_neg {l : List Nat} {S : Sto} (h : AD l) (hne : l ≠ []) (hl : l.length ≤ 600) : fIntS [tS (45 :: l)] S = .ok (.int (-(val l : Nat))) S := by
  show (match PySem.intText? (sS (45 :: l)) with | some n => if (sS (45 :: l)).length ≤ 640 then Res.ok (PV.int n) S else .bad | none => .bad) = _
  rw [PySem.intText_neg (x := sS (45 :: l)) (cs := l) rfl h hne (by rw [sLen, List.length_cons]; omega)]
  show (if (sS (45 :: l)).length ≤ 640 then Res.ok (PV.int _) S else .bad) = _
  rw [if_pos (by rw [sLen, List.length_cons]; omega)]
/-! ### runs of figures -/
def rn : List Nat → Nat
  | [] => 0
  | c :: r => if isD c = true then rn r + 1 else 0
theorem rn_le : ∀ l : List Nat, rn l ≤ l.length
  | [] => Nat.zero_le _
  | c :: r => by
    rw [rn, List.length_cons]
    split
    · have := rn_le r; omega
    · omega
theorem isD_iff {c : Nat} : isD c = true ↔ 48 ≤ c ∧ c ≤ 57 := by unfold isD; simp
theorem rn_digits : ∀ l : List Nat, AD (l.take (rn l))
  | [] => fun c h => by simp [rn] at h
  | c :: r => by
    rw [rn]
    split
    · rename_i h
      rw [List.take_succ_cons]
      intro d hd
      rcases List.mem_cons.mp hd with rfl | hd
      · exact isD_iff.mp h
      · exact rn_digits r d hd
    · intro d hd; simp at hd
theorem rn_app {a b : List Nat} (h : AD a) : rn (a ++ b) = a.length + rn b := by
  induction a with
  | nil => simp
  | cons c r ih =>
    rw [List.cons_append, rn, if_pos (isD_iff.mpr h.head), ih h.tail, List.length_cons]
    omega
theorem rn_stop {l : List Nat} (h : ∀ c, l.head? = some c → isD c = false) : rn l = 0 := by
  cases l with
  | nil => rfl
  | cons c r => rw [rn, h c rfl]; rfl
/-- the run goes on at i just while the sign there is a figure -/
theorem rn_step {l : List Nat} {i : Nat} (h : i < l.length) (hd : isD l[i] = true) : rn (l.drop i) = rn (l.drop (i + 1)) + 1 := by
  rw [List.drop_eq_getElem_cons h, rn, if_pos hd]
theorem rn_none {l : List Nat} {i : Nat} (h : i < l.length) (hd : isD l[i] = false) : rn (l.drop i) = 0 := by
  rw [List.drop_eq_getElem_cons h, rn, hd]; rfl
theorem rn_end {l : List Nat} {i : Nat} (h : l.length ≤ i) : rn (l.drop i) = 0 := by
  rw [List.drop_eq_nil_of_le h]; rfl
theorem rn_le' (l : List Nat) (i : Nat) : rn (l.drop i) ≤ l.length - i := by
  have := rn_le (l.drop i)
  rwa [List.length_drop] at this
theorem AS.drop {l : List Nat} (h : AS l) (i : Nat) : AS (l.drop i) := fun c hc => h c (List.mem_of_mem_drop hc)
theorem AS.take {l : List Nat} (h : AS l) (i : Nat) : AS (l.take i) := fun c hc => h c (List.mem_of_mem_take hc)
theorem AS.app {a b : List Nat} (h : AS a) (k : AS b) : AS (a ++ b) := fun c hc => by
  rcases List.mem_append.mp hc with q | q
  · exact h c q
  · exact k c q
theorem AS.at_ {l : List Nat} (h : AS l) {i : Nat} (hi : i < l.length) : AS [l[i]] := fun c hc => by
  have : c = l[i] := by simpa using hc
  rw [this]
  exact h _ (List.getElem_mem hi)
theorem AD.as {l : List Nat} (h : AD l) : AS l := fun c hc => by have := h c hc; omega
/-- the one sign at i -/
theorem one_at {l : List Nat} {i : Nat} (c : Nat) : decide ((l.drop i).take 1 = [c]) = decide (l[i]? = some c) := by
  refine decide_eq_decide.mpr ?_
  by_cases h : i < l.length
  · rw [List.drop_eq_getElem_cons h, List.getElem?_eq_getElem h, List.take_succ_cons, List.take_zero, List.cons.injEq, Option.some.injEq]
    exact ⟨fun z => z.1, fun z => ⟨z, rfl⟩⟩
  · rw [List.drop_eq_nil_of_le (by omega), List.getElem?_eq_none (by omega)]
    simp
end Tx
end
section
set_option Elab.async false
set_option linter.all false
set_option maxRecDepth 100000
set_option maxHeartbeats 2000000
/-! what a text of figures tells -/
namespace Tx
open PySem PySem.Spec PyProof.Rows L2 Mi
inductive PR where
  | bad (i : Nat)
  | ok (i e : Int)
inductive PE where
  | bad (i : Nat)
  | ok (e : Int)
def sgn (neg : Bool) (i : Int) : Int := if neg = true then -i else i
def expo (l : List Nat) (at_ : Nat) : PE :=
  let neg := decide (l[at_]? = some 45)
  let h := if neg = true then at_ + 1 else at_
  let m := rn (l.drop h)
  if m = 0 then .bad h
  else if h + m < l.length then .bad (h + m)
  else if 3 < m ∨ 140 < val (l.drop h) then .bad h
  else .ok (sgn neg (val (l.drop h) : Nat))
def fin (l : List Nat) (neg : Bool) (D : List Nat) (k h : Nat) : PR :=
  if h < l.length then
    if l[h]? = some 101 then match expo l (h + 1) with
      | .bad i => .bad i
      | .ok e => .ok (sgn neg (val D : Nat)) (e - (k : Int))
    else .bad h
  else .ok (sgn neg (val D : Nat)) (0 - (k : Int))
def pr (l : List Nat) : PR :=
  let neg := decide (l[0]? = some 45)
  let b := if neg = true then 1 else 0
  let m := rn (l.drop b)
  if m = 0 then .bad b
  else if l[b + m]? = some 46 then
    let m2 := rn (l.drop (b + m + 1))
    if m2 = 0 then .bad (b + m + 1)
    else fin l neg ((l.drop b).take m ++ (l.drop (b + m + 1)).take m2) m2 (b + m + 1 + m2)
  else fin l neg ((l.drop b).take m) 0 (b + m)
/-- a run to the end is all that is left -/
theorem rn_all {l : List Nat} {h : Nat} (e : ¬ h + rn (l.drop h) < l.length) : AD (l.drop h) := by
  have a := rn_digits (l.drop h)
  rwa [List.take_of_length_le (by rw [List.length_drop]; omega)] at a
theorem fold_lt : ∀ (l : List Nat) (a : Nat), AD l → l.foldl (fun acc c => acc * 10 + (c - 48)) a < (a + 1) * 10 ^ l.length
  | [], a, _ => by simp
  | c :: r, a, h => by
    rw [List.foldl_cons, List.length_cons]
    have hc := h.head
    refine Nat.lt_of_lt_of_le (fold_lt r (a * 10 + (c - 48)) h.tail) ?_
    rw [Nat.pow_succ, Nat.mul_comm (10 ^ r.length) 10, ← Nat.mul_assoc]
    exact Nat.mul_le_mul_right _ (by omega)
theorem val_lt {l : List Nat} (h : AD l) : val l < 10 ^ l.length := by
  have := fold_lt l 0 h
  rwa [Nat.zero_add, Nat.one_mul] at this
theorem fold_app (a b : List Nat) (k : Nat) : (a ++ b).foldl (fun acc c => acc * 10 + (c - 48)) k = b.foldl (fun acc c => acc * 10 + (c - 48)) (a.foldl (fun acc c => acc * 10 + (c - 48)) k) := List.foldl_append ..
theorem fold_val : ∀ (l : List Nat) (k : Nat), l.foldl (fun acc c => acc * 10 + (c - 48)) k = k * 10 ^ l.length + val l
  | [], k => by simp [val, NumText.digitsVal]
  | c :: r, k => by
    rw [List.foldl_cons, fold_val r]
    show _ = k * 10 ^ (r.length + 1) + (c :: r).foldl (fun acc c => acc * 10 + (c - 48)) 0
    rw [List.foldl_cons, fold_val r (0 * 10 + (c - 48)), Nat.pow_succ]
    simp only [Nat.zero_mul, Nat.zero_add, Nat.add_mul]
    rw [Nat.mul_assoc, Nat.mul_comm 10]
    omega
theorem val_app (a b : List Nat) : val (a ++ b) = val a * 10 ^ b.length + val b := by
  show (a ++ b).foldl (fun acc c => acc * 10 + (c - 48)) 0 = _
  rw [fold_app, fold_val]
  rfl
theorem val_one (c : Nat) : val [c] = c - 48 := by simp [val, NumText.digitsVal]
theorem AD.app {a b : List Nat} (h : AD a) (k : AD b) : AD (a ++ b) := fun c hc => by
  rcases List.mem_append.mp hc with q | q
  · exact h c q
  · exact k c q
theorem sgn_abs (neg : Bool) (v : Nat) : (sgn neg (v : Nat)).natAbs = v := by cases neg <;> simp [sgn]
theorem expo_bd {l : List Nat} {p : Nat} {e : Int} (h : expo l p = .ok e) : e.natAbs ≤ 140 := by
  unfold expo at h
  dsimp only at h
  generalize decide (l[p]? = some 45) = neg at h
  generalize (if neg = true then p + 1 else p) = hh at h
  split at h
  · cases h
  · split at h
    · cases h
    · split at h
      · cases h
      · rename_i q
        cases h
        rw [sgn_abs]
        omega
theorem fin_bd {l : List Nat} {neg : Bool} {D : List Nat} {k h : Nat} {i e : Int} (hd : AD D) (hk : k ≤ l.length) (hD : D.length ≤ l.length) (q : fin l neg D k h = .ok i e) : i.natAbs < 10 ^ l.length ∧ e.natAbs ≤ 140 + l.length := by
  have v := Nat.lt_of_lt_of_le (val_lt hd) (Nat.pow_le_pow_right (by decide : 0 < 10) hD)
  unfold fin at q
  split at q
  · split at q
    · cases ex : expo l (h + 1) with
      | bad j => rw [ex] at q; cases q
      | ok e' =>
        rw [ex] at q
        cases q
        have b := expo_bd ex
        rw [sgn_abs]
        exact ⟨v, by omega⟩
    · cases q
  · cases q
    rw [sgn_abs]
    exact ⟨v, by omega⟩
theorem pr_bd {l : List Nat} {i e : Int} (q : pr l = .ok i e) : i.natAbs < 10 ^ l.length ∧ e.natAbs ≤ 140 + l.length := by
  unfold pr at q
  simp only at q
  have hb : (if decide (l[0]? = some 45) = true then 1 else 0) ≤ l.length := by
    by_cases c : l[0]? = some 45
    · have := (List.getElem?_eq_some_iff.mp c).1
      simp [c]; omega
    · simp [c]
  generalize decide (l[0]? = some 45) = neg at *
  generalize (if neg = true then 1 else 0 : Nat) = b at *
  have d1 := rn_digits (l.drop b)
  have r1 := rn_le' l b
  generalize rn (l.drop b) = m at *
  have l1 : ((l.drop b).take m).length ≤ m := by rw [List.length_take]; omega
  split at q
  · cases q
  · split at q
    · rename_i dot
      have lt := (List.getElem?_eq_some_iff.mp dot).1
      have d2 := rn_digits (l.drop (b + m + 1))
      have r2 := rn_le' l (b + m + 1)
      generalize rn (l.drop (b + m + 1)) = m2 at *
      have l2 : ((l.drop (b + m + 1)).take m2).length ≤ m2 := by rw [List.length_take]; omega
      split at q
      · cases q
      · exact fin_bd (d1.app d2) (by omega) (by rw [List.length_append]; omega) q
    · exact fin_bd d1 (by omega) (by omega) q
end Tx
end
section
set_option Elab.async false
set_option linter.all false
set_option maxRecDepth 100000
set_option maxHeartbeats 2000000
/-! texts of a form -/
namespace Tx
open PySem PySem.Spec PyProof.Rows L2 Mi
/-- a figure's text: a sign, figures, a point and figures, a power -/
structure Fo where
  neg : Bool
  A : List Nat
  B : Option (List Nat)
  X : Option (Bool × List Nat)
def Fo.r2 (f : Fo) : List Nat := match f.X with
  | none => []
  | some (n, x) => 101 :: ((if n = true then [45] else []) ++ x)
def Fo.r1 (f : Fo) : List Nat := match f.B with
  | none => f.r2
  | some b => 46 :: (b ++ f.r2)
def Fo.txt (f : Fo) : List Nat := (if f.neg = true then [45] else []) ++ (f.A ++ f.r1)
structure Fo.Ok (f : Fo) : Prop where
  A : AD f.A
  nA : f.A ≠ []
  B : ∀ b, f.B = some b → AD b ∧ b ≠ []
  X : ∀ n x, f.X = some (n, x) → AD x ∧ x ≠ [] ∧ x.length ≤ 3 ∧ val x ≤ 140
def Fo.b (f : Fo) : List Nat := f.B.getD []
def Fo.e (f : Fo) : Int := match f.X with
  | none => 0
  | some (n, x) => sgn n (val x : Nat)
theorem rn_cons {c : Nat} {r : List Nat} (h : isD c = false) : rn (c :: r) = 0 := by rw [rn, h]; rfl
theorem Fo.r2_stop (f : Fo) : rn f.r2 = 0 := by
  unfold Fo.r2
  split
  · rfl
  · exact rn_cons (by decide)
theorem Fo.r1_stop (f : Fo) : rn f.r1 = 0 := by
  unfold Fo.r1
  split
  · exact f.r2_stop
  · exact rn_cons (by decide)
theorem head_digit {A R : List Nat} (h : AD A) (ne : A ≠ []) : ¬ (A ++ R)[0]? = some 45 := by
  cases A with
  | nil => exact absurd rfl ne
  | cons c r =>
    have := h.head
    simp
    omega
theorem getd {l R : List Nat} {p : Nat} (h : l.drop p = R) (i : Nat) : l[p + i]? = R[i]? := by rw [← h, List.getElem?_drop]
theorem dropd {l R : List Nat} {p : Nat} (h : l.drop p = R) (i : Nat) : l.drop (p + i) = R.drop i := by rw [← h, List.drop_drop]
theorem lend {l R : List Nat} {p : Nat} (h : l.drop p = R) : R.length = l.length - p := by rw [← h, List.length_drop]
theorem expo_ok {l : List Nat} {p : Nat} {n : Bool} {x : List Nat} (h : l.drop p = (if n = true then [45] else []) ++ x) (hx : AD x) (ne : x ≠ []) (l3 : x.length ≤ 3) (v : val x ≤ 140) : expo l p = .ok (sgn n (val x : Nat)) := by
  have g := getd h 0
  rw [Nat.add_zero] at g
  have rx : rn x = x.length := by have := rn_app (b := []) hx; rw [List.append_nil] at this; rw [this]; rfl
  have xl : 0 < x.length := List.length_pos_iff.mpr ne
  cases n with
  | true =>
    have g1 : l[p]? = some 45 := by rw [g]; rfl
    have d1 : l.drop (p + 1) = x := by rw [dropd h 1]; rfl
    have ll := lend d1
    unfold expo
    simp only [g1, decide_true, if_true, d1, rx]
    rw [if_neg (by omega), if_neg (by omega), if_neg (by omega)]
  | false =>
    have h' : l.drop p = x := h
    have g1 : ¬ l[p]? = some 45 := by
      rw [g]
      show ¬ ([] ++ x)[0]? = some 45
      rw [List.nil_append]
      have := head_digit (R := []) hx ne
      rwa [List.append_nil] at this
    have ll := lend h'
    unfold expo
    simp only [decide_eq_false g1, Bool.false_eq_true, if_false, h', rx]
    rw [if_neg (by omega), if_neg (by omega), if_neg (by omega)]
theorem fin_ok {l D : List Nat} {neg : Bool} {k h : Nat} {f : Fo} (hf : f.Ok) (hd : l.drop h = f.r2) (hh : h ≤ l.length) : fin l neg D k h = .ok (sgn neg (val D : Nat)) (f.e - (k : Int)) := by
  have ll := lend hd
  have g := getd hd 0
  rw [Nat.add_zero] at g
  unfold fin
  cases q : f.X with
  | none =>
    have r2 : f.r2 = [] := by unfold Fo.r2; rw [q]
    have e0 : f.e = 0 := by unfold Fo.e; rw [q]
    rw [r2] at ll
    rw [if_neg (by simp at ll; omega), e0]
  | some nx =>
    obtain ⟨n, x⟩ := nx
    have r2 : f.r2 = 101 :: ((if n = true then [45] else []) ++ x) := by unfold Fo.r2; rw [q]
    have e0 : f.e = sgn n (val x : Nat) := by unfold Fo.e; rw [q]
    obtain ⟨h1, h2, h3, h4⟩ := hf.X n x q
    rw [r2] at ll g hd
    have d1 := dropd hd 1
    rw [List.drop_succ_cons, List.drop_zero] at d1
    rw [List.length_cons] at ll
    rw [if_pos (by omega), if_pos (by rw [g]; rfl), expo_ok d1 h1 h2 h3 h4, e0]
theorem pr_form {f : Fo} (hf : f.Ok) : pr f.txt = .ok (sgn f.neg (val (f.A ++ f.b) : Nat)) (f.e - (f.b.length : Int)) := by
  obtain ⟨l, el⟩ : ∃ l, l = f.txt := ⟨_, rfl⟩
  rw [← el]
  have hn : decide (l[0]? = some 45) = f.neg := by
    rw [el]
    unfold Fo.txt
    cases f.neg with
    | true => rfl
    | false => exact decide_eq_false (by rw [if_neg Bool.false_ne_true, List.nil_append]; exact head_digit hf.A hf.nA)
  have hb : l.drop (if f.neg = true then 1 else 0) = f.A ++ f.r1 := by
    rw [el]
    unfold Fo.txt
    cases f.neg <;> rfl
  have hle : (if f.neg = true then 1 else 0) ≤ l.length := by
    rw [el]
    unfold Fo.txt
    cases f.neg <;> simp
  unfold pr
  dsimp only
  rw [hn]
  generalize (if f.neg = true then 1 else 0 : Nat) = b at *
  have ra : rn (f.A ++ f.r1) = f.A.length := by rw [rn_app hf.A, f.r1_stop, Nat.add_zero]
  have pA : 0 < f.A.length := List.length_pos_iff.mpr hf.nA
  rw [hb, ra, if_neg (by omega), List.take_left]
  have d1 := dropd hb f.A.length
  rw [List.drop_left] at d1
  have ll := lend hb
  rw [List.length_append] at ll
  have g1 := getd d1 0
  rw [Nat.add_zero] at g1
  cases q : f.B with
  | none =>
    have r1 : f.r1 = f.r2 := by unfold Fo.r1; rw [q]
    have fb : f.b = [] := by unfold Fo.b; rw [q]; rfl
    have ng : ¬ l[b + f.A.length]? = some 46 := by
      rw [g1, r1]
      unfold Fo.r2
      split <;> simp
    rw [if_neg ng, fin_ok hf (by rw [d1, r1]) (by omega), fb, List.append_nil]
    rfl
  | some B =>
    obtain ⟨aB, nB⟩ := hf.B B q
    have r1 : f.r1 = 46 :: (B ++ f.r2) := by unfold Fo.r1; rw [q]
    have fb : f.b = B := by unfold Fo.b; rw [q]; rfl
    rw [r1] at g1 d1 ll
    have d2 := dropd d1 1
    rw [List.drop_succ_cons, List.drop_zero] at d2
    have rb : rn (B ++ f.r2) = B.length := by rw [rn_app aB, f.r2_stop, Nat.add_zero]
    have pB : 0 < B.length := List.length_pos_iff.mpr nB
    have d3 := dropd d2 B.length
    rw [List.drop_left] at d3
    rw [List.length_cons, List.length_append] at ll
    rw [if_pos (by rw [g1]; rfl), d2, rb, if_neg (by omega), List.take_left, fin_ok hf d3 (by omega), fb]
end Tx
end
section
set_option Elab.async false
set_option linter.all false
set_option maxRecDepth 100000
set_option maxHeartbeats 2000000
set_option exponentiation.threshold 5000
/-! values of texts -/
namespace Tx
open PySem PySem.Spec PyProof.Rows L2 Mi Ra
theorem pw_b {e : Int} {n : Nat} (h : e.natAbs ≤ n) : (pw 10 e).num.natAbs ≤ 10 ^ n ∧ (pw 10 e).den ≤ 10 ^ n := by
  have b : 10 ^ e.natAbs ≤ 10 ^ n := Nat.pow_le_pow_right (by decide) h
  have o : 1 ≤ 10 ^ n := Nat.pow_pos (by decide)
  by_cases c : 0 ≤ e
  · obtain ⟨x, y⟩ := pw_nn (b := 10) c
    rw [x, y]
    exact ⟨by rw [Int.natAbs_natCast]; exact b, o⟩
  · obtain ⟨x, y⟩ := pw_ng (b := 10) (by decide) c
    rw [x]
    exact ⟨o, by omega⟩
theorem v_sz {i e : Int} {m n : Nat} (hi : i.natAbs ≤ m) (he : e.natAbs ≤ n) : Sz (m * 10 ^ n) (1 * 10 ^ n) ((i : Rat) * pw 10 e) := by
  obtain ⟨a, b⟩ := pw_b he
  exact Sz.mul ⟨by rw [Rat.num_intCast]; exact hi, by rw [Rat.den_intCast]; exact Nat.le_refl 1⟩ ⟨a, b⟩
theorem v_ok {i e : Int} (hi : i.natAbs ≤ 10 ^ 60) (he : e.natAbs ≤ 200) : Ok ((i : Rat) * pw 10 e) :=
  (v_sz hi he).ok (by decide +kernel) (by decide +kernel)
theorem pw0 : pw 10 0 = 1 := by decide +kernel
/-- the next figure -/
theorem horn (M c : Nat) (j : Int) : (((M : Int) : Rat) * pw 10 j) + ((c : Int) : Rat) * pw 10 j = (((M + c : Nat) : Int) : Rat) * pw 10 j := by
  have e : (((M + c : Nat) : Int) : Rat) = ((M : Int) : Rat) + ((c : Int) : Rat) := by rw [Int.natCast_add, Rat.intCast_add]
  rw [e]
  generalize pw 10 j = p
  generalize ((M : Int) : Rat) = x
  generalize ((c : Int) : Rat) = y
  grind
theorem up10 (i : Int) (j : Int) : (i : Rat) * pw 10 j * 10 = (i : Rat) * pw 10 (j + 1) := by
  have h := pw_succ (b := 10) (by decide) j
  have t : ((10 : Nat) : Rat) = 10 := rfl
  rw [t] at h
  rw [h]
  generalize pw 10 j = p
  generalize (i : Rat) = x
  grind
theorem dn10 (i : Int) (j : Int) : (i : Rat) * pw 10 j / 10 = (i : Rat) * pw 10 (j - 1) := by
  have h := pw_succ (b := 10) (by decide) (j - 1)
  have t : ((10 : Nat) : Rat) = 10 := rfl
  rw [t, Int.sub_add_cancel] at h
  rw [h]
  generalize pw 10 (j - 1) = p
  generalize (i : Rat) = x
  grind
theorem mul10 (M : Nat) (j : Int) : ((M : Int) : Rat) * pw 10 j * 10 = (((M * 10 : Nat) : Int) : Rat) * pw 10 j := by
  have e : (((M * 10 : Nat) : Int) : Rat) = ((M : Int) : Rat) * 10 := by rw [Int.natCast_mul, Rat.intCast_mul]; rfl
  rw [e]
  generalize pw 10 j = p
  generalize ((M : Int) : Rat) = x
  grind
theorem shift (M : Nat) (j : Int) : ((M : Int) : Rat) * pw 10 j = (((M * 10 : Nat) : Int) : Rat) * pw 10 (j - 1) := by
  rw [← mul10, up10, Int.sub_add_cancel]
theorem one10 (j : Int) : pw 10 j / 10 = pw 10 (j - 1) := by
  have h := dn10 1 j
  have o : ((1 : Int) : Rat) = 1 := rfl
  rw [o, Rat.one_mul, Rat.one_mul] at h
  exact h
/-- the head of a text, the text of its power -/
def Fo.hd (f : Fo) : List Nat := (if f.neg = true then [45] else []) ++ (f.A ++ (match f.B with | none => [] | some b => 46 :: b))
def Fo.px (f : Fo) : List Nat := match f.X with
  | none => [48]
  | some (n, x) => (if n = true then [45] else []) ++ x
theorem Fo.hd_ne {f : Fo} (h : f.Ok) : 101 ∉ f.hd := by
  unfold Fo.hd
  intro q
  have dg : ∀ l : List Nat, AD l → 101 ∉ l := fun l hl hc => by have := hl 101 hc; omega
  rcases List.mem_append.mp q with q | q
  · cases f.neg <;> simp at q
  · rcases List.mem_append.mp q with q | q
    · exact dg _ h.A q
    · cases e : f.B with
      | none => rw [e] at q; simp at q
      | some b =>
        rw [e] at q
        rcases List.mem_cons.mp q with q | q
        · omega
        · exact dg _ (h.B b e).1 q
theorem Fo.px_ne {f : Fo} (h : f.Ok) : 101 ∉ f.px := by
  unfold Fo.px
  split
  · decide
  · rename_i n x e
    intro q
    rcases List.mem_append.mp q with q | q
    · cases n <;> simp at q
    · have := (h.X n x e).1 101 q
      omega
theorem Fo.txt_none {f : Fo} (e : f.X = none) : f.txt = f.hd := by
  unfold Fo.txt Fo.hd Fo.r1 Fo.r2
  rw [e]
  cases f.B <;> simp
theorem Fo.txt_some {f : Fo} {z : Bool × List Nat} (e : f.X = some z) : f.txt = f.hd ++ (101 :: f.px) := by
  unfold Fo.txt Fo.hd Fo.r1 Fo.r2 Fo.px
  rw [e]
  cases f.B <;> simp
theorem spl_txt {f : Fo} (h : f.Ok) : Txt.split (sS f.txt) (sS [101]) = if f.X = none then [sS f.hd] else [sS f.hd, sS f.px] := by
  have e := SX.split_S (a := f.txt) (b := [101]) (by decide) (by decide)
  have e : Txt.split (sS f.txt) (sS [101]) = (TL.spl [101] 0 [] f.txt).map sS := e
  rw [e]
  cases q : f.X with
  | none =>
    rw [Fo.txt_none q, TL.spl_last1 (Fo.hd_ne h), if_pos rfl]
    rfl
  | some z =>
    have t : f.txt = f.hd ++ (([101] : List Nat) ++ f.px) := Fo.txt_some q
    rw [t, TL.spl_part1 (Fo.hd_ne h), TL.spl_last1 (Fo.px_ne h), if_neg (by simp)]
    rfl
theorem in_txt {f : Fo} (h : f.Ok) : decide (101 ∈ f.txt) = !decide (f.X = none) := by
  cases q : f.X with
  | none =>
    rw [Fo.txt_none q, decide_eq_false (Fo.hd_ne h)]
    rfl
  | some z =>
    rw [Fo.txt_some q, decide_eq_true (by simp)]
    rfl
theorem Fo.as {f : Fo} (h : f.Ok) : AS f.txt := by
  have h1 : AS f.hd := by
    unfold Fo.hd
    refine AS.app (fun c hc => ?_) (h.A.as.app fun c hc => ?_)
    · have : c = 45 := by
        split at hc <;> simp at hc
        exact hc
      omega
    · cases e : f.B with
      | none => rw [e] at hc; simp at hc
      | some b =>
        rw [e] at hc
        rcases List.mem_cons.mp hc with q | q
        · omega
        · exact (h.B b e).1.as c q
  cases q : f.X with
  | none => rw [Fo.txt_none q]; exact h1
  | some z =>
    rw [Fo.txt_some q]
    refine h1.app fun c hc => ?_
    rcases List.mem_cons.mp hc with e | e
    · omega
    · unfold Fo.px at e
      rw [q] at e
      obtain ⟨n, x⟩ := z
      rcases List.mem_append.mp e with e | e
      · cases n <;> simp at e
        omega
      · exact (h.X n x q).1.as c e
theorem Fo.nil {f : Fo} (h : f.Ok) : f.txt ≠ [] := by
  unfold Fo.txt
  have := h.nA
  simp [this]
theorem Fo.len {f : Fo} (h : f.Ok) : f.txt.length ≤ f.A.length + f.b.length + 7 := by
  have h1 : f.hd.length ≤ f.A.length + f.b.length + 2 := by
    unfold Fo.hd Fo.b
    cases f.neg <;> cases f.B <;> simp <;> omega
  cases q : f.X with
  | none => rw [Fo.txt_none q]; omega
  | some z =>
    rw [Fo.txt_some q]
    have h2 : f.px.length ≤ 4 := by
      unfold Fo.px
      rw [q]
      obtain ⟨n, x⟩ := z
      have := (h.X n x q).2.2.1
      cases n <;> simp <;> omega
    rw [List.length_append, List.length_cons]
    omega
/-- two figures ahead -/
def Fo.two (f : Fo) : Fo := { f with A := 48 :: 48 :: f.A }
theorem Fo.two_ok {f : Fo} (h : f.Ok) : f.two.Ok := ⟨fun c hc => by
  rcases List.mem_cons.mp hc with e | e
  · omega
  · rcases List.mem_cons.mp e with e | e
    · omega
    · exact h.A c e, List.cons_ne_nil _ _, h.B, h.X⟩
theorem Fo.two_pr {f : Fo} (h : f.Ok) : pr f.two.txt = pr f.txt := by
  rw [pr_form h, pr_form (Fo.two_ok h)]
  have e : val (f.two.A ++ f.two.b) = val (f.A ++ f.b) := rfl
  rw [e]
  rfl
theorem Fo.two_txt {f : Fo} : f.two.txt = if f.neg = true then [45, 48, 48] ++ f.txt.drop 1 else [48, 48] ++ f.txt := by
  unfold Fo.txt Fo.two Fo.r1 Fo.r2
  cases f.neg <;> rfl
theorem Fo.neg_at {f : Fo} (h : f.Ok) : decide (f.txt[0]? = some 45) = f.neg := by
  unfold Fo.txt
  cases f.neg with
  | true => rfl
  | false => exact decide_eq_false (by rw [if_neg Bool.false_ne_true, List.nil_append]; exact head_digit h.A h.nA)
end Tx
end
section
set_option Elab.async false
set_option linter.all false
set_option maxRecDepth 100000
set_option maxHeartbeats 2000000
set_option exponentiation.threshold 5000
/-! numbers written, ones repeated -/
namespace Tx
open PySem PySem.Spec PyProof.Rows L2 Mi Ra
def dg3 (n : Nat) : List Nat := [48 + n / 100, 48 + n / 10 % 10, 48 + n % 10]
theorem str3 : ((List.range 1000).all fun n => decide (n < 100) || decide ((toString (n : Int) : Str) = sS (dg3 n))) = true := by decide +kernel
theorem strI3 {n : Nat} (h : 100 ≤ n) (h2 : n < 1000) (S : Sto) : fStrI [.int (n : Int)] S = .ok (tS (dg3 n)) S := by
  have a := List.all_eq_true.mp str3 n (List.mem_range.mpr h2)
  rw [decide_eq_false (by omega), Bool.false_or] at a
  have a := of_decide_eq_true a
  show (if (n : Int).natAbs.log2 < 1920 then Res.ok (PV.str (toString (n : Int) : Str)) S else .bad) = _
  rw [if_pos, a]
  rw [Int.natAbs_natCast]
  have : n.log2 ≤ n := Nat.log2_le_self n
  omega
theorem dg3_ad {n : Nat} (h2 : n < 1000) : AD (dg3 n) := fun c hc => by
  simp only [dg3, List.mem_cons, List.not_mem_nil, or_false] at hc
  omega
theorem dg3_val {n : Nat} : val (dg3 n) = n := by
  have h : val (dg3 n) = ((48 + n / 100 - 48) * 10 + (48 + n / 10 % 10 - 48)) * 10 + (48 + n % 10 - 48) := by
    simp [val, dg3, NumText.digitsVal]
  rw [h]
  omega
theorem ones_ad (k : Nat) : AD (List.replicate k 49) := fun c hc => by
  have := List.eq_of_mem_replicate hc
  omega
theorem flat_ones : ∀ k : Nat, (List.replicate k [49]).flatten = List.replicate k 49
  | 0 => rfl
  | k + 1 => by rw [List.replicate_succ, List.flatten_cons, flat_ones k, List.replicate_succ]; rfl
theorem mul_ones {k : Int} (h : 2 ≤ k) (h2 : k ≤ 10000) (S : Sto) : fMulS (.str ("1" : Str)) (.int k) S = .ok (tS (List.replicate k.toNat 49)) S := by
  have l1 : ("1" : Str).length = 1 := by kernel_rfl
  show (if 2 ≤ k ∧ k ≤ 10000 ∧ 1 ≤ ("1" : Str).length ∧ ("1" : Str).length ≤ 100 then Res.ok (PV.str ⟨(List.replicate k.toNat ("1" : Str).cps).foldl (· ++ ·) #[]⟩) S else .bad) = _
  rw [l1, if_pos ⟨h, h2, by decide, by decide⟩]
  have c1 : ("1" : Str).cps = #[49] := by kernel_rfl
  have e : (List.replicate k.toNat (#[49] : Array Nat)).foldl (· ++ ·) #[] = (List.replicate k.toNat 49).toArray := by
    have := fold_list (#[49] : Array Nat) k.toNat #[]
    apply Array.ext'
    rw [this]
    simp [flat_ones]
  rw [c1, e]
/-- many ones are great -/
theorem ones_ge : ∀ k : Nat, 10 ^ k ≤ val (List.replicate (k + 1) 49)
  | 0 => by decide +kernel
  | k + 1 => by
    have ih := ones_ge k
    have e : List.replicate (k + 1 + 1) 49 = List.replicate (k + 1) 49 ++ [49] := List.replicate_succ'
    rw [e, val_app, val_one, Nat.pow_succ]
    show _ ≤ _ * 10 ^ 1 + _
    omega
/-- a form that is too great -/
def gr (n e : Nat) : Fo := ⟨false, List.replicate n 49, none, some (false, dg3 e)⟩
theorem gr_txt (n e : Nat) : (gr n e).txt = List.replicate n 49 ++ [101] ++ dg3 e := by
  unfold Fo.txt Fo.r1 Fo.r2 gr
  simp
theorem gr_ok {n e : Nat} (h : 0 < n) (he : e ≤ 140) : (gr n e).Ok := ⟨ones_ad n, fun q => by
    have := congrArg List.length q
    simp [gr] at this
    omega, fun b hb => (nomatch hb), fun s x hx => by
    cases hx
    exact ⟨dg3_ad (by omega), by simp [dg3], by simp [dg3], by rw [dg3_val]; exact he⟩⟩
theorem gr_pr {n e : Nat} (h : 0 < n) (he : e ≤ 140) : pr (gr n e).txt = .ok (val (List.replicate n 49) : Nat) (e : Nat) := by
  rw [pr_form (gr_ok h he)]
  have b : (gr n e).b = [] := rfl
  have a : (gr n e).A = List.replicate n 49 := rfl
  have x : (gr n e).e = (val (dg3 e) : Nat) := rfl
  have s : (gr n e).neg = false := rfl
  rw [b, a, x, s, dg3_val, List.append_nil]
  simp [sgn]
theorem gr_big {n e : Nat} (h : 170 ≤ n) (he : 135 ≤ e) : 10 ^ 300 ≤ ((((val (List.replicate n 49) : Nat) : Int) : Rat) * pw 10 (e : Nat)).num.natAbs := by
  obtain ⟨k, rfl⟩ : ∃ k, n = k + 1 := ⟨n - 1, by omega⟩
  have g := ones_ge k
  generalize val (List.replicate (k + 1) 49) = v at *
  have e1 : pw 10 (e : Nat) = ((10 ^ e : Nat) : Rat) := by
    unfold pw
    rw [if_pos (by omega), Int.natAbs_natCast]
  have e2 : (((v : Nat) : Int) : Rat) * ((10 ^ e : Nat) : Rat) = ((v * 10 ^ e : Nat) : Rat) := by
    rw [Rat.natCast_mul, Rat.intCast_natCast]
  rw [e1, e2, Rat.num_natCast, Int.natAbs_natCast]
  have a : 10 ^ 169 ≤ v := Nat.le_trans (Nat.pow_le_pow_right (by decide) (by omega)) g
  have b : 10 ^ 135 ≤ 10 ^ e := Nat.pow_le_pow_right (by decide) he
  exact Nat.le_trans (by decide +kernel) (Nat.mul_le_mul a b)
/-- three, and a power too great -/
theorem th_pr {n : Nat} (h : 141 ≤ n) (h2 : n < 1000) : pr ([51, 101] ++ dg3 n) = .bad 2 := by
  have ad := dg3_ad h2
  have hv : val (dg3 n) = n := dg3_val
  have ln : (dg3 n).length = 3 := rfl
  obtain ⟨l, el⟩ : ∃ l, l = [51, 101] ++ dg3 n := ⟨_, rfl⟩
  rw [← el]
  have h0 : ¬ l[0]? = some 45 := by rw [el]; simp
  have d1 : l.drop 1 = 101 :: dg3 n := by rw [el]; rfl
  have d2 : l.drop 2 = dg3 n := by rw [el]; rfl
  have d0 : l.drop 0 = 51 :: (101 :: dg3 n) := by rw [el]; rfl
  have r0 : rn (l.drop 0) = 1 := by
    rw [d0]
    have := rn_app (a := [51]) (b := 101 :: dg3 n) (fun c hc => by rw [List.mem_singleton.mp hc]; decide)
    rw [rn_cons (by decide)] at this
    exact this
  have g1 : l[1]? = some 101 := by rw [el]; rfl
  have ll : l.length = 5 := by rw [el]; rfl
  have hne : ¬ l[2]? = some 45 := by
    rw [el]
    simp [dg3]
    omega
  have r2 : rn (l.drop 2) = 3 := by
    rw [d2]
    have := rn_app (b := []) ad
    rw [List.append_nil] at this
    rw [this, ln]
    rfl
  have r3 : rn (dg3 n) = 3 := by rw [← d2]; exact r2
  unfold pr
  simp only [decide_eq_false h0, Bool.false_eq_true, if_false, r0]
  rw [if_neg (by decide), if_neg (by rw [show 0 + 1 = 1 from rfl, g1]; decide)]
  unfold fin
  rw [if_pos (by omega), if_pos (by rw [show 0 + 1 = 1 from rfl, g1])]
  have ex : expo l (0 + 1 + 1) = .bad 2 := by
    unfold expo
    simp only [show 0 + 1 + 1 = 2 from rfl, decide_eq_false hne, Bool.false_eq_true, if_false, d2, r3, hv]
    rw [if_neg (by decide), if_neg (by omega), if_pos (by omega)]
  rw [ex]
end Tx
end
section
set_option Elab.async false
set_option linter.all false
set_option maxRecDepth 100000
set_option maxHeartbeats 8000000
namespace G58
open PySem PySem.Spec PyProof.Rows L2 Mi
/-- what stands at the top, by its place -/
abbrev top (i : Nat) : Stmt := (PySem.Challenge.pw_roundwarrant_k58_whole_texts_of_figures).main.body.getD i (.Pass ⟨0, 0, 0, 0⟩)
/-- turns enough for each while -/
abbrev fuel : Nat := 10000000000000000000000000000000000000000000000000000000000000000000000000000000000000000000000000000000000000000000000000000000000000000000000000000000000000000000000000000000000000000000000000000000000000000000000000000000000000000000000000000000000000000000000000000000000000000000000000000000000000000000000000000000000000000000000000000000000000000000000000000000000000000000000000000000000000000000000000000000000000000000000000000000000000000000000000000000000000000000000000000000000000000000000000000000000000000000000000000000000000000000000000000000000000000000000000000000000000000000000000000000000000000000000000000000000000000000000000000000000000000000000000000000000000000000000000000
abbrev c_FIFTY : Int := 100000000000000000000000000000000000000000000000000
abbrev c_MOST_TURNS : Int := 6
abbrev c_FIGURES : Str := "0123456789"
abbrev c_POINT : Str := "."
abbrev c_POWER : Str := "e"
abbrev c_MINUS : Str := "-"
abbrev c_MOST_TEXT : Int := 300
abbrev c_MOST_POWER : Int := 140
abbrev c_NO_PLACE : Int := -1
/-- which errors the law's clause takes -/
abbrev errN : List Str := ["RoundError", "NoFraction", "Zero", "BadText"]
abbrev catT : Str → Option Bool := catN errN
/-- what isinstance tells of an error of the class c -/
abbrev isP : List (Str × Str × Bool) := ([("RoundError", "RoundError", true), ("RoundError", "NoFraction", false), ("RoundError", "Zero", false), ("RoundError", "BadText", false)] : List (Str × Str × Bool)) ++ ([("NoFraction", "RoundError", true), ("NoFraction", "NoFraction", true), ("NoFraction", "Zero", false), ("NoFraction", "BadText", false)] : List (Str × Str × Bool)) ++ ([("Zero", "RoundError", true), ("Zero", "NoFraction", false), ("Zero", "Zero", true), ("Zero", "BadText", false)] : List (Str × Str × Bool)) ++ ([("BadText", "RoundError", true), ("BadText", "NoFraction", false), ("BadText", "Zero", false), ("BadText", "BadText", true)] : List (Str × Str × Bool))
abbrev isT : Str → PV → Option Bool := isTab isP errN
/-! is_integer -/
abbrev s_is_integer : Stmt := top 8
def d_is_integer : EnP → Sto → SR := dRet (dAnd (dCB fIsi (dCons (dV 0) (dCons (dC (.ty "int")) (dNil)))) (dNot (dCB fIsi (dCons (dV 0) (dCons (dC (.ty "bool")) (dNil))))))
def F_is_integer : List PV → Sto → Res PV := runF 1 1 d_is_integer
theorem sc_is_integer : FnScope (["thing"] : List Str) (["thing"] : List Str) (defScope s_is_integer) := ⟨rfl, rfl, rfl, by decide +kernel, rfl, by decide +kernel, by decide +kernel⟩
theorem fc_is_integer {Z : Wd} (B : Bi Z.mg) (hT : Z.T.lm = none) (D : DefOk Z "is_integer" s_is_integer) : FC Z 1 "is_integer" F_is_integer := by
  have Sc := sc_is_integer
  exact D.fc Sc (fun _ _ _ _ _ _ us hl => match us, hl with | [_], _ => rfl) fun f cdv A outer s H E C => by exact (css_one (cs_ret (ce_and (ce_callB (x := ("isinstance" : Str)) call_isi sl_isi rfl B.b_isinstance PyProof.Rows.boot_isinstance (ca_cons (ce_v 0) (ca_cons (ce_bty rfl B.b_int PyProof.Rows.boot_int) ca_nil))) (ce_one (ce_not (ce_callB (x := ("isinstance" : Str)) call_isi sl_isi rfl B.b_isinstance PyProof.Rows.boot_isinstance (ca_cons (ce_v 0) (ca_cons (ce_bty rfl B.b_bool PyProof.Rows.boot_bool) ca_nil))))))))
/-! too_great -/
abbrev s_too_great : Stmt := top 9
def d_too_great : EnP → Sto → SR := dSeq (dSet 0 (dC (.int 1))) (dSeq (dFor (iRange (dCons (dC (.int c_MOST_TURNS)) (dNil))) (gNm 1) (dSet 0 (dBin (fMul false) (dV 0) (dC (.int c_FIFTY))))) (dRet (dV 0)))
def F_too_great : List PV → Sto → Res PV := runF 0 2 d_too_great
theorem sc_too_great : FnScope (["found", "turn"] : List Str) ([] : List Str) (defScope s_too_great) := ⟨rfl, rfl, rfl, by decide +kernel, rfl, by decide +kernel, by decide +kernel⟩
theorem fc_too_great {Z : Wd} (B : Bi Z.mg) (hT : Z.T.lm = none) (h_MOST_TURNS : ∃ t, Z.mg "MOST_TURNS" = some (.int c_MOST_TURNS t)) (h_FIFTY : ∃ t, Z.mg "FIFTY" = some (.int c_FIFTY t)) (D : DefOk Z "too_great" s_too_great) : FC Z 1 "too_great" F_too_great := by
  have Sc := sc_too_great
  exact D.fc Sc (fun _ _ _ _ _ _ us hl => match us, hl with | [], _ => rfl) fun f cdv A outer s H E C => by exact (css_cons (cs_set (i := 0) Sc.nd rfl (Or.inl rfl) ce_int) (css_cons (cs_for C.po C.calm (ci_range1 rfl B.b_range (ca_cons (ce_gi h_MOST_TURNS rfl) ca_nil) rfl len1) (cg_name (i := 1) Sc.nd rfl (Or.inl rfl)) (css_one (cs_set (i := 0) Sc.nd rfl (Or.inl rfl) (ce_bin op_mulM (sn_mul false (fun h => nomatch h)) (ce_v 0) (ce_gi h_FIFTY rfl))))) (css_one (cs_ret (ce_v 0)))))
/-! common_divisor -/
abbrev s_common_divisor : Stmt := top 10
def d_common_divisor : EnP → Sto → SR := dSeq (dPar 0 1 (dCons (dCB fAbs (dCons (dV 0) (dNil))) (dCons (dCB fAbs (dCons (dV 1) (dNil))) (dNil)))) (dSeq (whileP (dB (dBin (fCmpI iGt) (dV 1) (dC (.int 0)))) (dPar 0 1 (dCons (dV 1) (dCons (dBin fMod (dV 0) (dV 1)) (dNil)))) fuel) (dRet (dV 0)))
def F_common_divisor : List PV → Sto → Res PV := runF 2 2 d_common_divisor
theorem sc_common_divisor : FnScope (["one", "other"] : List Str) (["one", "other"] : List Str) (defScope s_common_divisor) := ⟨rfl, rfl, rfl, by decide +kernel, rfl, by decide +kernel, by decide +kernel⟩
theorem fc_common_divisor {Z : Wd} (B : Bi Z.mg) (hT : Z.T.lm = none) (D : DefOk Z "common_divisor" s_common_divisor) : FC Z 1 "common_divisor" F_common_divisor := by
  have Sc := sc_common_divisor
  exact D.fc Sc (fun _ _ _ _ _ _ us hl => match us, hl with | [_, _], _ => rfl) fun f cdv A outer s H E C => by exact (css_cons (cs_par (i := 0) (j := 1) C.calm Sc.nd rfl rfl (by decide) rfl rfl (ca_cons (ce_callB (x := ("abs" : Str)) call_abs sl_abs rfl B.b_abs PyProof.Rows.boot_abs (ca_cons (ce_v 0) ca_nil)) (ca_cons (ce_callB (x := ("abs" : Str)) call_abs sl_abs rfl B.b_abs PyProof.Rows.boot_abs (ca_cons (ce_v 1) ca_nil)) ca_nil)) rfl) (css_cons (cs_while fuel C.po (ct_cmp op_gt (sn_cmpI iGt) (ce_v 1) ce_int rfl) (css_one (cs_par (i := 0) (j := 1) C.calm Sc.nd rfl rfl (by decide) rfl rfl (ca_cons (ce_v 1) (ca_cons (ce_bin op_modN sn_mod (ce_v 0) (ce_v 1)) ca_nil)) rfl))) (css_one (cs_ret (ce_v 0)))))
/-! is_fraction -/
abbrev s_is_fraction : Stmt := top 11
def d_is_fraction : EnP → Sto → SR := dSeq (dIfS (bOr (bNot (dTru (dCB fIsi (dCons (dV 0) (dCons (dC (.ty "tuple")) (dNil)))))) (bOr (dB (dBin (fEq true) (dCB fLen (dCons (dV 0) (dNil))) (dC (.int 2)))) (bNot (dTru (dCB fAll (dCons (dLc false (iSeq (dV 0)) (cNm 1) (dYes) (dCB F_is_integer (dCons (dV 1) (dNil))) [1]) (dNil))))))) (dRet (dC (.bl false))) (dPass)) (dSeq (dSet 2 (dCB F_too_great dNil)) (dSeq (dIfS (bOr (bNot (dB (dChain (fCmpI iLt) (fCmpI iLt) (dC (.int 0)) (dBin fIx (dV 0) (dC (.int 1))) (dV 2)))) (dB (dBin (fCmpI iGe) (dCB fAbs (dCons (dBin fIx (dV 0) (dC (.int 0))) (dNil))) (dV 2)))) (dRet (dC (.bl false))) (dPass)) (dRet (dBin (fEq false) (dCB F_common_divisor (dCons (dBin fIx (dV 0) (dC (.int 0))) (dCons (dBin fIx (dV 0) (dC (.int 1))) (dNil)))) (dC (.int 1))))))
def F_is_fraction : List PV → Sto → Res PV := runF 1 3 d_is_fraction
theorem sc_is_fraction : FnScope (["thing", "one", "most"] : List Str) (["thing"] : List Str) (defScope s_is_fraction) := ⟨rfl, rfl, rfl, by decide +kernel, rfl, by decide +kernel, by decide +kernel⟩
theorem fc_is_fraction {Z : Wd} (B : Bi Z.mg) (hT : Z.T.lm = none) (h_is_integer : FC Z 1 "is_integer" F_is_integer) (h_too_great : FC Z 1 "too_great" F_too_great) (h_common_divisor : FC Z 1 "common_divisor" F_common_divisor) (D : DefOk Z "is_fraction" s_is_fraction) : FC Z 2 "is_fraction" F_is_fraction := by
  have Sc := sc_is_fraction
  exact D.fc Sc (fun _ _ _ _ _ _ us hl => match us, hl with | [_], _ => rfl) fun f cdv A outer s H E C => by exact (css_cons (cs_if (ct_w (cw_or (ct_not (ct_tru (ce_callB (x := ("isinstance" : Str)) call_isi sl_isi rfl B.b_isinstance PyProof.Rows.boot_isinstance (ca_cons (ce_v 0) (ca_cons (ce_bty rfl B.b_tuple PyProof.Rows.boot_tuple) ca_nil))))) (cw_or (ct_cmp (op_neD (u64 C.u)) sn_ne (ce_callB (x := ("len" : Str)) call_len sl_len rfl B.b_len (by decide +kernel) (ca_cons (ce_v 0) ca_nil)) ce_int rfl) (cw_or1 (ct_not (ct_tru (ce_callB (x := ("all" : Str)) (cr_all C.calm) sl_all rfl B.b_all (by decide +kernel) (ca_cons (ce_lcC false (fun h => nomatch h) C Sc.nd (ci_seq (ce_v 0)) (show BlkOk (["thing", "one", "most"] : List Str) (defScope s_is_fraction) _ [(("one" : Str), 1)] from blkOk_by (by decide +kernel)) (fun _ _ _ _ _ C => (pg_name (i := 1) Sc.nd rfl (Or.inl rfl) (Or.inr rfl))) (tgc_name (by decide)) (fun _ _ _ _ _ _ => pts_yes) (fun _ _ _ _ _ C => (ce_call h_is_integer C (by decide) rfl (ca_cons (ce_v 1) ca_nil)))) ca_nil)))))))) (css_one (cs_ret ce_bl)) css_nil) (css_cons (cs_set (i := 2) Sc.nd rfl (Or.inl rfl) (ce_call0 h_too_great C (by decide) rfl)) (css_cons (cs_if (ct_w (cw_or (ct_not (ct_chain op_lt (sn_cmpI iLt) op_lt (sn_cmpI iLt) ce_int (ce_ix (ce_v 0) ce_int (fun _ _ => rfl)) (ce_v 2))) (cw_or1 (ct_cmp op_ge (sn_cmpI iGe) (ce_callB (x := ("abs" : Str)) call_abs sl_abs rfl B.b_abs PyProof.Rows.boot_abs (ca_cons (ce_ix (ce_v 0) ce_int (fun _ _ => rfl)) ca_nil)) (ce_v 2) rfl)))) (css_one (cs_ret ce_bl)) css_nil) (css_one (cs_ret (ce_cmp (op_eqD (u64 C.u)) sn_eq (ce_call h_common_divisor C (by decide) rfl (ca_cons (ce_ix (ce_v 0) ce_int (fun _ _ => rfl)) (ca_cons (ce_ix (ce_v 0) ce_int (fun _ _ => rfl)) ca_nil))) ce_int rfl))))))
/-! check_fraction -/
abbrev s_check_fraction : Stmt := top 12
def d_check_fraction : EnP → Sto → SR := dIfS (bNot (dTru (dCB F_is_fraction (dCons (dV 0) (dNil))))) (dRaise ("NoFraction" : Str)) (dPass)
def F_check_fraction : List PV → Sto → Res PV := runF 1 1 d_check_fraction
theorem sc_check_fraction : FnScope (["thing"] : List Str) (["thing"] : List Str) (defScope s_check_fraction) := ⟨rfl, rfl, rfl, by decide +kernel, rfl, by decide +kernel, by decide +kernel⟩
theorem fc_check_fraction {Z : Wd} (B : Bi Z.mg) (hT : Z.T.lm = none) (e_NoFraction : EC Z.K Z.mg "NoFraction") (h_is_fraction : FC Z 2 "is_fraction" F_is_fraction) (D : DefOk Z "check_fraction" s_check_fraction) : FC Z 3 "check_fraction" F_check_fraction := by
  have Sc := sc_check_fraction
  exact D.fc Sc (fun _ _ _ _ _ _ us hl => match us, hl with | [_], _ => rfl) fun f cdv A outer s H E C => by exact (css_one (cs_if (ct_not (ct_tru (ce_call h_is_fraction C (by decide) rfl (ca_cons (ce_v 0) ca_nil)))) (css_one (cs_raise0 e_NoFraction C.calm C.tk rfl)) css_nil))
/-! check_two -/
abbrev s_check_two : Stmt := top 13
def d_check_two : EnP → Sto → SR := dSeq (dExpr (dCB F_check_fraction (dCons (dV 0) (dNil)))) (dExpr (dCB F_check_fraction (dCons (dV 1) (dNil))))
def F_check_two : List PV → Sto → Res PV := runF 2 2 d_check_two
theorem sc_check_two : FnScope (["x", "y"] : List Str) (["x", "y"] : List Str) (defScope s_check_two) := ⟨rfl, rfl, rfl, by decide +kernel, rfl, by decide +kernel, by decide +kernel⟩
theorem fc_check_two {Z : Wd} (B : Bi Z.mg) (hT : Z.T.lm = none) (h_check_fraction : FC Z 3 "check_fraction" F_check_fraction) (D : DefOk Z "check_two" s_check_two) : FC Z 4 "check_two" F_check_two := by
  have Sc := sc_check_two
  exact D.fc Sc (fun _ _ _ _ _ _ us hl => match us, hl with | [_, _], _ => rfl) fun f cdv A outer s H E C => by exact (css_cons (cs_expr (ce_call h_check_fraction C (by decide) rfl (ca_cons (ce_v 0) ca_nil))) (css_one (cs_expr (ce_call h_check_fraction C (by decide) rfl (ca_cons (ce_v 1) ca_nil)))))
/-! made -/
abbrev s_made : Stmt := top 14
def d_made : EnP → Sto → SR := dSeq (dSet 2 (dCB F_common_divisor (dCons (dV 0) (dCons (dV 1) (dNil))))) (dSeq (dSet 3 (dIf (dB (dBin (fCmpI iGt) (dV 1) (dC (.int 0)))) (dTup (dCons (dBin fDiv (dV 0) (dV 2)) (dCons (dBin fDiv (dV 1) (dV 2)) (dNil)))) (dTup (dCons (dBin fDiv (dUn fNeg (dV 0)) (dV 2)) (dCons (dBin fDiv (dUn fNeg (dV 1)) (dV 2)) (dNil)))))) (dSeq (dSet 4 (dCB F_too_great dNil)) (dSeq (dIfS (bOr (dB (dBin (fCmpI iGe) (dCB fAbs (dCons (dBin fIx (dV 3) (dC (.int 0))) (dNil))) (dV 4))) (dB (dBin (fCmpI iGe) (dBin fIx (dV 3) (dC (.int 1))) (dV 4)))) (dRaise ("NoFraction" : Str)) (dPass)) (dRet (dV 3)))))
def F_made : List PV → Sto → Res PV := runF 2 5 d_made
theorem sc_made : FnScope (["top", "bottom", "by", "found", "most"] : List Str) (["top", "bottom"] : List Str) (defScope s_made) := ⟨rfl, rfl, rfl, by decide +kernel, rfl, by decide +kernel, by decide +kernel⟩
theorem fc_made {Z : Wd} (B : Bi Z.mg) (hT : Z.T.lm = none) (e_NoFraction : EC Z.K Z.mg "NoFraction") (h_common_divisor : FC Z 1 "common_divisor" F_common_divisor) (h_too_great : FC Z 1 "too_great" F_too_great) (D : DefOk Z "made" s_made) : FC Z 2 "made" F_made := by
  have Sc := sc_made
  exact D.fc Sc (fun _ _ _ _ _ _ us hl => match us, hl with | [_, _], _ => rfl) fun f cdv A outer s H E C => by exact (css_cons (cs_set (i := 2) Sc.nd rfl (Or.inl rfl) (ce_call h_common_divisor C (by decide) rfl (ca_cons (ce_v 0) (ca_cons (ce_v 1) ca_nil)))) (css_cons (cs_set (i := 3) Sc.nd rfl (Or.inl rfl) (ce_if (ct_cmp op_gt (sn_cmpI iGt) (ce_v 1) ce_int rfl) (ce_tup (ca_cons (ce_bin op_fdivA sn_div (ce_v 0) (ce_v 2)) (ca_cons (ce_bin op_fdivA sn_div (ce_v 1) (ce_v 2)) ca_nil))) (ce_tup (ca_cons (ce_bin op_fdivA sn_div (ce_un un_neg sn_neg (ce_v 0)) (ce_v 2)) (ca_cons (ce_bin op_fdivA sn_div (ce_un un_neg sn_neg (ce_v 1)) (ce_v 2)) ca_nil))))) (css_cons (cs_set (i := 4) Sc.nd rfl (Or.inl rfl) (ce_call0 h_too_great C (by decide) rfl)) (css_cons (cs_if (ct_w (cw_or (ct_cmp op_ge (sn_cmpI iGe) (ce_callB (x := ("abs" : Str)) call_abs sl_abs rfl B.b_abs PyProof.Rows.boot_abs (ca_cons (ce_ix (ce_v 3) ce_int (fun _ _ => rfl)) ca_nil)) (ce_v 4) rfl) (cw_or1 (ct_cmp op_ge (sn_cmpI iGe) (ce_ix (ce_v 3) ce_int (fun _ _ => rfl)) (ce_v 4) rfl)))) (css_one (cs_raise0 e_NoFraction C.calm C.tk rfl)) css_nil) (css_one (cs_ret (ce_v 3)))))))
/-! fraction -/
abbrev s_fraction : Stmt := top 15
def d_fraction : EnP → Sto → SR := dSeq (dIfS (bOr (bNot (dTru (dCB F_is_integer (dCons (dV 0) (dNil))))) (bOr (bNot (dTru (dCB F_is_integer (dCons (dV 1) (dNil))))) (dB (dBin (fEq false) (dV 1) (dC (.int 0)))))) (dRaise ("NoFraction" : Str)) (dPass)) (dRet (dCB F_made (dCons (dV 0) (dCons (dV 1) (dNil)))))
def F_fraction : List PV → Sto → Res PV := runF 2 2 d_fraction
theorem sc_fraction : FnScope (["top", "bottom"] : List Str) (["top", "bottom"] : List Str) (defScope s_fraction) := ⟨rfl, rfl, rfl, by decide +kernel, rfl, by decide +kernel, by decide +kernel⟩
theorem fc_fraction {Z : Wd} (B : Bi Z.mg) (hT : Z.T.lm = none) (e_NoFraction : EC Z.K Z.mg "NoFraction") (h_is_integer : FC Z 1 "is_integer" F_is_integer) (h_made : FC Z 2 "made" F_made) (D : DefOk Z "fraction" s_fraction) : FC Z 3 "fraction" F_fraction := by
  have Sc := sc_fraction
  exact D.fc Sc (fun _ _ _ _ _ _ us hl => match us, hl with | [_, _], _ => rfl) fun f cdv A outer s H E C => by exact (css_cons (cs_if (ct_w (cw_or (ct_not (ct_tru (ce_call h_is_integer C (by decide) rfl (ca_cons (ce_v 0) ca_nil)))) (cw_or (ct_not (ct_tru (ce_call h_is_integer C (by decide) rfl (ca_cons (ce_v 1) ca_nil)))) (cw_or1 (ct_cmp (op_eqD (u64 C.u)) sn_eq (ce_v 1) ce_int rfl))))) (css_one (cs_raise0 e_NoFraction C.calm C.tk rfl)) css_nil) (css_one (cs_ret (ce_call h_made C (by decide) rfl (ca_cons (ce_v 0) (ca_cons (ce_v 1) ca_nil))))))
/-! raw_plus -/
abbrev s_raw_plus : Stmt := top 16
def d_raw_plus : EnP → Sto → SR := dRet (dCB F_made (dCons (dBin (fAdd false) (dBin (fMul false) (dBin fIx (dV 0) (dC (.int 0))) (dBin fIx (dV 1) (dC (.int 1)))) (dBin (fMul false) (dBin fIx (dV 1) (dC (.int 0))) (dBin fIx (dV 0) (dC (.int 1))))) (dCons (dBin (fMul false) (dBin fIx (dV 0) (dC (.int 1))) (dBin fIx (dV 1) (dC (.int 1)))) (dNil))))
def F_raw_plus : List PV → Sto → Res PV := runF 2 2 d_raw_plus
theorem sc_raw_plus : FnScope (["x", "y"] : List Str) (["x", "y"] : List Str) (defScope s_raw_plus) := ⟨rfl, rfl, rfl, by decide +kernel, rfl, by decide +kernel, by decide +kernel⟩
theorem fc_raw_plus {Z : Wd} (B : Bi Z.mg) (hT : Z.T.lm = none) (h_made : FC Z 2 "made" F_made) (D : DefOk Z "raw_plus" s_raw_plus) : FC Z 3 "raw_plus" F_raw_plus := by
  have Sc := sc_raw_plus
  exact D.fc Sc (fun _ _ _ _ _ _ us hl => match us, hl with | [_, _], _ => rfl) fun f cdv A outer s H E C => by exact (css_one (cs_ret (ce_call h_made C (by decide) rfl (ca_cons (ce_bin op_addM (sn_add false (fun h => nomatch h)) (ce_bin op_mulM (sn_mul false (fun h => nomatch h)) (ce_ix (ce_v 0) ce_int (fun _ _ => rfl)) (ce_ix (ce_v 1) ce_int (fun _ _ => rfl))) (ce_bin op_mulM (sn_mul false (fun h => nomatch h)) (ce_ix (ce_v 1) ce_int (fun _ _ => rfl)) (ce_ix (ce_v 0) ce_int (fun _ _ => rfl)))) (ca_cons (ce_bin op_mulM (sn_mul false (fun h => nomatch h)) (ce_ix (ce_v 0) ce_int (fun _ _ => rfl)) (ce_ix (ce_v 1) ce_int (fun _ _ => rfl))) ca_nil)))))
/-! raw_less -/
abbrev s_raw_less : Stmt := top 17
def d_raw_less : EnP → Sto → SR := dRet (dCB F_made (dCons (dBin fSub (dBin (fMul false) (dBin fIx (dV 0) (dC (.int 0))) (dBin fIx (dV 1) (dC (.int 1)))) (dBin (fMul false) (dBin fIx (dV 1) (dC (.int 0))) (dBin fIx (dV 0) (dC (.int 1))))) (dCons (dBin (fMul false) (dBin fIx (dV 0) (dC (.int 1))) (dBin fIx (dV 1) (dC (.int 1)))) (dNil))))
def F_raw_less : List PV → Sto → Res PV := runF 2 2 d_raw_less
theorem sc_raw_less : FnScope (["x", "y"] : List Str) (["x", "y"] : List Str) (defScope s_raw_less) := ⟨rfl, rfl, rfl, by decide +kernel, rfl, by decide +kernel, by decide +kernel⟩
theorem fc_raw_less {Z : Wd} (B : Bi Z.mg) (hT : Z.T.lm = none) (h_made : FC Z 2 "made" F_made) (D : DefOk Z "raw_less" s_raw_less) : FC Z 3 "raw_less" F_raw_less := by
  have Sc := sc_raw_less
  exact D.fc Sc (fun _ _ _ _ _ _ us hl => match us, hl with | [_, _], _ => rfl) fun f cdv A outer s H E C => by exact (css_one (cs_ret (ce_call h_made C (by decide) rfl (ca_cons (ce_bin op_sub sn_sub (ce_bin op_mulM (sn_mul false (fun h => nomatch h)) (ce_ix (ce_v 0) ce_int (fun _ _ => rfl)) (ce_ix (ce_v 1) ce_int (fun _ _ => rfl))) (ce_bin op_mulM (sn_mul false (fun h => nomatch h)) (ce_ix (ce_v 1) ce_int (fun _ _ => rfl)) (ce_ix (ce_v 0) ce_int (fun _ _ => rfl)))) (ca_cons (ce_bin op_mulM (sn_mul false (fun h => nomatch h)) (ce_ix (ce_v 0) ce_int (fun _ _ => rfl)) (ce_ix (ce_v 1) ce_int (fun _ _ => rfl))) ca_nil)))))
/-! raw_times -/
abbrev s_raw_times : Stmt := top 18
def d_raw_times : EnP → Sto → SR := dRet (dCB F_made (dCons (dBin (fMul false) (dBin fIx (dV 0) (dC (.int 0))) (dBin fIx (dV 1) (dC (.int 0)))) (dCons (dBin (fMul false) (dBin fIx (dV 0) (dC (.int 1))) (dBin fIx (dV 1) (dC (.int 1)))) (dNil))))
def F_raw_times : List PV → Sto → Res PV := runF 2 2 d_raw_times
theorem sc_raw_times : FnScope (["x", "y"] : List Str) (["x", "y"] : List Str) (defScope s_raw_times) := ⟨rfl, rfl, rfl, by decide +kernel, rfl, by decide +kernel, by decide +kernel⟩
theorem fc_raw_times {Z : Wd} (B : Bi Z.mg) (hT : Z.T.lm = none) (h_made : FC Z 2 "made" F_made) (D : DefOk Z "raw_times" s_raw_times) : FC Z 3 "raw_times" F_raw_times := by
  have Sc := sc_raw_times
  exact D.fc Sc (fun _ _ _ _ _ _ us hl => match us, hl with | [_, _], _ => rfl) fun f cdv A outer s H E C => by exact (css_one (cs_ret (ce_call h_made C (by decide) rfl (ca_cons (ce_bin op_mulM (sn_mul false (fun h => nomatch h)) (ce_ix (ce_v 0) ce_int (fun _ _ => rfl)) (ce_ix (ce_v 1) ce_int (fun _ _ => rfl))) (ca_cons (ce_bin op_mulM (sn_mul false (fun h => nomatch h)) (ce_ix (ce_v 0) ce_int (fun _ _ => rfl)) (ce_ix (ce_v 1) ce_int (fun _ _ => rfl))) ca_nil)))))
/-! raw_by -/
abbrev s_raw_by : Stmt := top 19
def d_raw_by : EnP → Sto → SR := dRet (dCB F_made (dCons (dBin (fMul false) (dBin fIx (dV 0) (dC (.int 0))) (dBin fIx (dV 1) (dC (.int 1)))) (dCons (dBin (fMul false) (dBin fIx (dV 0) (dC (.int 1))) (dBin fIx (dV 1) (dC (.int 0)))) (dNil))))
def F_raw_by : List PV → Sto → Res PV := runF 2 2 d_raw_by
theorem sc_raw_by : FnScope (["x", "y"] : List Str) (["x", "y"] : List Str) (defScope s_raw_by) := ⟨rfl, rfl, rfl, by decide +kernel, rfl, by decide +kernel, by decide +kernel⟩
theorem fc_raw_by {Z : Wd} (B : Bi Z.mg) (hT : Z.T.lm = none) (h_made : FC Z 2 "made" F_made) (D : DefOk Z "raw_by" s_raw_by) : FC Z 3 "raw_by" F_raw_by := by
  have Sc := sc_raw_by
  exact D.fc Sc (fun _ _ _ _ _ _ us hl => match us, hl with | [_, _], _ => rfl) fun f cdv A outer s H E C => by exact (css_one (cs_ret (ce_call h_made C (by decide) rfl (ca_cons (ce_bin op_mulM (sn_mul false (fun h => nomatch h)) (ce_ix (ce_v 0) ce_int (fun _ _ => rfl)) (ce_ix (ce_v 1) ce_int (fun _ _ => rfl))) (ca_cons (ce_bin op_mulM (sn_mul false (fun h => nomatch h)) (ce_ix (ce_v 0) ce_int (fun _ _ => rfl)) (ce_ix (ce_v 1) ce_int (fun _ _ => rfl))) ca_nil)))))
/-! plus -/
abbrev s_plus : Stmt := top 20
def d_plus : EnP → Sto → SR := dSeq (dExpr (dCB F_check_two (dCons (dV 0) (dCons (dV 1) (dNil))))) (dRet (dCB F_raw_plus (dCons (dV 0) (dCons (dV 1) (dNil)))))
def F_plus : List PV → Sto → Res PV := runF 2 2 d_plus
theorem sc_plus : FnScope (["x", "y"] : List Str) (["x", "y"] : List Str) (defScope s_plus) := ⟨rfl, rfl, rfl, by decide +kernel, rfl, by decide +kernel, by decide +kernel⟩
theorem fc_plus {Z : Wd} (B : Bi Z.mg) (hT : Z.T.lm = none) (h_check_two : FC Z 4 "check_two" F_check_two) (h_raw_plus : FC Z 3 "raw_plus" F_raw_plus) (D : DefOk Z "plus" s_plus) : FC Z 5 "plus" F_plus := by
  have Sc := sc_plus
  exact D.fc Sc (fun _ _ _ _ _ _ us hl => match us, hl with | [_, _], _ => rfl) fun f cdv A outer s H E C => by exact (css_cons (cs_expr (ce_call h_check_two C (by decide) rfl (ca_cons (ce_v 0) (ca_cons (ce_v 1) ca_nil)))) (css_one (cs_ret (ce_call h_raw_plus C (by decide) rfl (ca_cons (ce_v 0) (ca_cons (ce_v 1) ca_nil))))))
/-! less -/
abbrev s_less : Stmt := top 21
def d_less : EnP → Sto → SR := dSeq (dExpr (dCB F_check_two (dCons (dV 0) (dCons (dV 1) (dNil))))) (dRet (dCB F_raw_less (dCons (dV 0) (dCons (dV 1) (dNil)))))
def F_less : List PV → Sto → Res PV := runF 2 2 d_less
theorem sc_less : FnScope (["x", "y"] : List Str) (["x", "y"] : List Str) (defScope s_less) := ⟨rfl, rfl, rfl, by decide +kernel, rfl, by decide +kernel, by decide +kernel⟩
theorem fc_less {Z : Wd} (B : Bi Z.mg) (hT : Z.T.lm = none) (h_check_two : FC Z 4 "check_two" F_check_two) (h_raw_less : FC Z 3 "raw_less" F_raw_less) (D : DefOk Z "less" s_less) : FC Z 5 "less" F_less := by
  have Sc := sc_less
  exact D.fc Sc (fun _ _ _ _ _ _ us hl => match us, hl with | [_, _], _ => rfl) fun f cdv A outer s H E C => by exact (css_cons (cs_expr (ce_call h_check_two C (by decide) rfl (ca_cons (ce_v 0) (ca_cons (ce_v 1) ca_nil)))) (css_one (cs_ret (ce_call h_raw_less C (by decide) rfl (ca_cons (ce_v 0) (ca_cons (ce_v 1) ca_nil))))))
/-! times -/
abbrev s_times : Stmt := top 22
def d_times : EnP → Sto → SR := dSeq (dExpr (dCB F_check_two (dCons (dV 0) (dCons (dV 1) (dNil))))) (dRet (dCB F_raw_times (dCons (dV 0) (dCons (dV 1) (dNil)))))
def F_times : List PV → Sto → Res PV := runF 2 2 d_times
theorem sc_times : FnScope (["x", "y"] : List Str) (["x", "y"] : List Str) (defScope s_times) := ⟨rfl, rfl, rfl, by decide +kernel, rfl, by decide +kernel, by decide +kernel⟩
theorem fc_times {Z : Wd} (B : Bi Z.mg) (hT : Z.T.lm = none) (h_check_two : FC Z 4 "check_two" F_check_two) (h_raw_times : FC Z 3 "raw_times" F_raw_times) (D : DefOk Z "times" s_times) : FC Z 5 "times" F_times := by
  have Sc := sc_times
  exact D.fc Sc (fun _ _ _ _ _ _ us hl => match us, hl with | [_, _], _ => rfl) fun f cdv A outer s H E C => by exact (css_cons (cs_expr (ce_call h_check_two C (by decide) rfl (ca_cons (ce_v 0) (ca_cons (ce_v 1) ca_nil)))) (css_one (cs_ret (ce_call h_raw_times C (by decide) rfl (ca_cons (ce_v 0) (ca_cons (ce_v 1) ca_nil))))))
/-! by -/
abbrev s_by : Stmt := top 23
def d_by : EnP → Sto → SR := dSeq (dExpr (dCB F_check_two (dCons (dV 0) (dCons (dV 1) (dNil))))) (dSeq (dIfS (dB (dBin (fEq false) (dBin fIx (dV 1) (dC (.int 0))) (dC (.int 0)))) (dRaise ("Zero" : Str)) (dPass)) (dRet (dCB F_raw_by (dCons (dV 0) (dCons (dV 1) (dNil))))))
def F_by : List PV → Sto → Res PV := runF 2 2 d_by
theorem sc_by : FnScope (["x", "y"] : List Str) (["x", "y"] : List Str) (defScope s_by) := ⟨rfl, rfl, rfl, by decide +kernel, rfl, by decide +kernel, by decide +kernel⟩
theorem fc_by {Z : Wd} (B : Bi Z.mg) (hT : Z.T.lm = none) (e_Zero : EC Z.K Z.mg "Zero") (h_check_two : FC Z 4 "check_two" F_check_two) (h_raw_by : FC Z 3 "raw_by" F_raw_by) (D : DefOk Z "by" s_by) : FC Z 5 "by" F_by := by
  have Sc := sc_by
  exact D.fc Sc (fun _ _ _ _ _ _ us hl => match us, hl with | [_, _], _ => rfl) fun f cdv A outer s H E C => by exact (css_cons (cs_expr (ce_call h_check_two C (by decide) rfl (ca_cons (ce_v 0) (ca_cons (ce_v 1) ca_nil)))) (css_cons (cs_if (ct_cmp (op_eqD (u64 C.u)) sn_eq (ce_ix (ce_v 1) ce_int (fun _ _ => rfl)) ce_int rfl) (css_one (cs_raise0 e_Zero C.calm C.tk rfl)) css_nil) (css_one (cs_ret (ce_call h_raw_by C (by decide) rfl (ca_cons (ce_v 0) (ca_cons (ce_v 1) ca_nil)))))))
/-! floor_of -/
abbrev s_floor_of : Stmt := top 24
def d_floor_of : EnP → Sto → SR := dSeq (dExpr (dCB F_check_fraction (dCons (dV 0) (dNil)))) (dRet (dBin fDiv (dBin fIx (dV 0) (dC (.int 0))) (dBin fIx (dV 0) (dC (.int 1)))))
def F_floor_of : List PV → Sto → Res PV := runF 1 1 d_floor_of
theorem sc_floor_of : FnScope (["x"] : List Str) (["x"] : List Str) (defScope s_floor_of) := ⟨rfl, rfl, rfl, by decide +kernel, rfl, by decide +kernel, by decide +kernel⟩
theorem fc_floor_of {Z : Wd} (B : Bi Z.mg) (hT : Z.T.lm = none) (h_check_fraction : FC Z 3 "check_fraction" F_check_fraction) (D : DefOk Z "floor_of" s_floor_of) : FC Z 4 "floor_of" F_floor_of := by
  have Sc := sc_floor_of
  exact D.fc Sc (fun _ _ _ _ _ _ us hl => match us, hl with | [_], _ => rfl) fun f cdv A outer s H E C => by exact (css_cons (cs_expr (ce_call h_check_fraction C (by decide) rfl (ca_cons (ce_v 0) ca_nil))) (css_one (cs_ret (ce_bin op_fdivA sn_div (ce_ix (ce_v 0) ce_int (fun _ _ => rfl)) (ce_ix (ce_v 0) ce_int (fun _ _ => rfl))))))
/-! power_of_ten -/
abbrev s_power_of_ten : Stmt := top 33
def d_power_of_ten : EnP → Sto → SR := dSeq (dSet 1 (dC (.int 1))) (dSeq (dFor (iRange (dCons (dCB fAbs (dCons (dV 0) (dNil))) (dNil))) (gNm 2) (dSet 1 (dBin (fMul false) (dV 1) (dC (.int 10))))) (dRet (dIf (dB (dBin (fCmpI iGe) (dV 0) (dC (.int 0)))) (dTup (dCons (dV 1) (dCons (dC (.int 1)) (dNil)))) (dTup (dCons (dC (.int 1)) (dCons (dV 1) (dNil)))))))
def F_power_of_ten : List PV → Sto → Res PV := runF 1 3 d_power_of_ten
theorem sc_power_of_ten : FnScope (["e", "found", "turn"] : List Str) (["e"] : List Str) (defScope s_power_of_ten) := ⟨rfl, rfl, rfl, by decide +kernel, rfl, by decide +kernel, by decide +kernel⟩
theorem fc_power_of_ten {Z : Wd} (B : Bi Z.mg) (hT : Z.T.lm = none) (D : DefOk Z "power_of_ten" s_power_of_ten) : FC Z 1 "power_of_ten" F_power_of_ten := by
  have Sc := sc_power_of_ten
  exact D.fc Sc (fun _ _ _ _ _ _ us hl => match us, hl with | [_], _ => rfl) fun f cdv A outer s H E C => by exact (css_cons (cs_set (i := 1) Sc.nd rfl (Or.inl rfl) ce_int) (css_cons (cs_for C.po C.calm (ci_range1 rfl B.b_range (ca_cons (ce_callB (x := ("abs" : Str)) call_abs sl_abs rfl B.b_abs PyProof.Rows.boot_abs (ca_cons (ce_v 0) ca_nil)) ca_nil) rfl len1) (cg_name (i := 2) Sc.nd rfl (Or.inl rfl)) (css_one (cs_set (i := 1) Sc.nd rfl (Or.inl rfl) (ce_bin op_mulM (sn_mul false (fun h => nomatch h)) (ce_v 1) ce_int)))) (css_one (cs_ret (ce_if (ct_cmp op_ge (sn_cmpI iGe) (ce_v 0) ce_int rfl) (ce_tup (ca_cons (ce_v 1) (ca_cons ce_int ca_nil))) (ce_tup (ca_cons ce_int (ca_cons (ce_v 1) ca_nil))))))))
/-! run_of -/
abbrev s_run_of : Stmt := top 34
def d_run_of : EnP → Sto → SR := dSeq (dSet 2 (dC (.int 0))) (dSeq (whileP (bAnd (dB (dBin (fCmpI iLt) (dBin (fAdd false) (dV 1) (dV 2)) (dCB fLen (dCons (dV 0) (dNil))))) (dB (dBin (fInS false) (dBin fIx (dV 0) (dBin (fAdd false) (dV 1) (dV 2))) (dC (.str c_FIGURES))))) (dAug 2 fAddI (dC (.int 1))) fuel) (dRet (dV 2)))
def F_run_of : List PV → Sto → Res PV := runF 2 3 d_run_of
theorem sc_run_of : FnScope (["text", "at", "many"] : List Str) (["text", "at"] : List Str) (defScope s_run_of) := ⟨rfl, rfl, rfl, by decide +kernel, rfl, by decide +kernel, by decide +kernel⟩
theorem fc_run_of {Z : Wd} (B : Bi Z.mg) (hT : Z.T.lm = none) (h_FIGURES : ∃ t, Z.mg "FIGURES" = some (.str c_FIGURES t)) (D : DefOk Z "run_of" s_run_of) : FC Z 1 "run_of" F_run_of := by
  have Sc := sc_run_of
  exact D.fc Sc (fun _ _ _ _ _ _ us hl => match us, hl with | [_, _], _ => rfl) fun f cdv A outer s H E C => by exact (css_cons (cs_set (i := 2) Sc.nd rfl (Or.inl rfl) ce_int) (css_cons (cs_while fuel C.po (ct_w (cw_and (ct_cmp op_lt (sn_cmpI iLt) (ce_bin op_addM (sn_add false (fun h => nomatch h)) (ce_v 1) (ce_v 2)) (ce_callB (x := ("len" : Str)) call_len sl_len rfl B.b_len (by decide +kernel) (ca_cons (ce_v 0) ca_nil)) rfl) (cw_and1 (ct_cmp op_in_str sn_inS (ce_ix (ce_v 0) (ce_bin op_addM (sn_add false (fun h => nomatch h)) (ce_v 1) (ce_v 2)) (fun _ _ => rfl)) (ce_gS h_FIGURES rfl) rfl)))) (css_one (cs_aug (i := 2) Sc.nd rfl (Or.inl rfl) ce_int iop_add sn_addI))) (css_one (cs_ret (ce_v 2)))))
/-! power_read -/
abbrev s_power_read : Stmt := top 35
def d_power_read : EnP → Sto → SR := dSeq (dPar 2 3 (dCons (dC (.int 1)) (dCons (dV 1) (dNil)))) (dSeq (dIfS (bAnd (dB (dBin (fCmpI iLt) (dV 3) (dCB fLen (dCons (dV 0) (dNil))))) (dB (dBin (fEq false) (dBin fIx (dV 0) (dV 3)) (dC (.str c_MINUS))))) (dPar 2 3 (dCons (dUn fNeg (dC (.int 1))) (dCons (dBin (fAdd false) (dV 3) (dC (.int 1))) (dNil)))) (dPass)) (dSeq (dSet 4 (dCB F_run_of (dCons (dV 0) (dCons (dV 3) (dNil))))) (dSeq (dIfS (dB (dBin (fEq false) (dV 4) (dC (.int 0)))) (dRaiseF ("BadText" : Str) ("place" : Str) (dV 3)) (dPass)) (dSeq (dIfS (dB (dBin (fCmpI iLt) (dBin (fAdd false) (dV 3) (dV 4)) (dCB fLen (dCons (dV 0) (dNil))))) (dRaiseF ("BadText" : Str) ("place" : Str) (dBin (fAdd false) (dV 3) (dV 4))) (dPass)) (dSeq (dIfS (bOr (dB (dBin (fCmpI iGt) (dV 4) (dC (.int 3)))) (dB (dBin (fCmpI iGt) (dCB fIntS (dCons (dSl false (dV 0) (dPart (dV 3)) (dNoPart)) (dNil))) (dC (.int c_MOST_POWER))))) (dRaiseF ("BadText" : Str) ("place" : Str) (dV 3)) (dPass)) (dRet (dBin (fMul false) (dV 2) (dCB fIntS (dCons (dSl false (dV 0) (dPart (dV 3)) (dNoPart)) (dNil))))))))))
def F_power_read : List PV → Sto → Res PV := runF 2 5 d_power_read
theorem sc_power_read : FnScope (["text", "at", "sign", "here", "many"] : List Str) (["text", "at"] : List Str) (defScope s_power_read) := ⟨rfl, rfl, rfl, by decide +kernel, rfl, by decide +kernel, by decide +kernel⟩
theorem fc_power_read {Z : Wd} (B : Bi Z.mg) (hT : Z.T.lm = none) (h_MINUS : ∃ t, Z.mg "MINUS" = some (.str c_MINUS t)) (h_MOST_POWER : ∃ t, Z.mg "MOST_POWER" = some (.int c_MOST_POWER t)) (e_BadText : EF1 Z.K Z.mg "BadText" "place") (h_run_of : FC Z 1 "run_of" F_run_of) (D : DefOk Z "power_read" s_power_read) : FC Z 3 "power_read" F_power_read := by
  have Sc := sc_power_read
  exact D.fc Sc (fun _ _ _ _ _ _ us hl => match us, hl with | [_, _], _ => rfl) fun f cdv A outer s H E C => by exact (css_cons (cs_par (i := 2) (j := 3) C.calm Sc.nd rfl rfl (by decide) rfl rfl (ca_cons ce_int (ca_cons (ce_v 1) ca_nil)) rfl) (css_cons (cs_if (ct_w (cw_and (ct_cmp op_lt (sn_cmpI iLt) (ce_v 3) (ce_callB (x := ("len" : Str)) call_len sl_len rfl B.b_len (by decide +kernel) (ca_cons (ce_v 0) ca_nil)) rfl) (cw_and1 (ct_cmp (op_eqD (u64 C.u)) sn_eq (ce_ix (ce_v 0) (ce_v 3) (fun _ _ => rfl)) (ce_gS h_MINUS rfl) rfl)))) (css_one (cs_par (i := 2) (j := 3) C.calm Sc.nd rfl rfl (by decide) rfl rfl (ca_cons (ce_un un_neg sn_neg ce_int) (ca_cons (ce_bin op_addM (sn_add false (fun h => nomatch h)) (ce_v 3) ce_int) ca_nil)) rfl)) css_nil) (css_cons (cs_set (i := 4) Sc.nd rfl (Or.inl rfl) (ce_call h_run_of C (by decide) rfl (ca_cons (ce_v 0) (ca_cons (ce_v 3) ca_nil)))) (css_cons (cs_if (ct_cmp (op_eqD (u64 C.u)) sn_eq (ce_v 4) ce_int rfl) (css_one (cs_raiseF e_BadText C (by decide) rfl (ca_cons (ce_v 3) ca_nil))) css_nil) (css_cons (cs_if (ct_cmp op_lt (sn_cmpI iLt) (ce_bin op_addM (sn_add false (fun h => nomatch h)) (ce_v 3) (ce_v 4)) (ce_callB (x := ("len" : Str)) call_len sl_len rfl B.b_len (by decide +kernel) (ca_cons (ce_v 0) ca_nil)) rfl) (css_one (cs_raiseF e_BadText C (by decide) rfl (ca_cons (ce_bin op_addM (sn_add false (fun h => nomatch h)) (ce_v 3) (ce_v 4)) ca_nil))) css_nil) (css_cons (cs_if (ct_w (cw_or (ct_cmp op_gt (sn_cmpI iGt) (ce_v 4) ce_int rfl) (cw_or1 (ct_cmp op_gt (sn_cmpI iGt) (ce_callTy call_int_str sl_intS rfl B.b_int PyProof.Rows.boot_int (ca_cons (ce_sl false (fun h => nomatch h) (ce_v 0) (co_some (ce_v 3)) co_none) ca_nil)) (ce_gi h_MOST_POWER rfl) rfl)))) (css_one (cs_raiseF e_BadText C (by decide) rfl (ca_cons (ce_v 3) ca_nil))) css_nil) (css_one (cs_ret (ce_bin op_mulM (sn_mul false (fun h => nomatch h)) (ce_v 2) (ce_callTy call_int_str sl_intS rfl B.b_int PyProof.Rows.boot_int (ca_cons (ce_sl false (fun h => nomatch h) (ce_v 0) (co_some (ce_v 3)) co_none) ca_nil)))))))))))
/-! raw_read -/
abbrev s_raw_read : Stmt := top 36
def d_raw_read : EnP → Sto → SR := dSeq (dAsg (dIf (dB (dBin (fEq false) (dSl false (dV 0) (dNoPart) (dPart (dC (.int 1)))) (dC (.str c_MINUS)))) (dTup (dCons (dUn fNeg (dC (.int 1))) (dCons (dC (.int 1)) (dNil)))) (dTup (dCons (dC (.int 1)) (dCons (dC (.int 0)) (dNil))))) (gTp 2 (gsCons (gNm 1) (gsCons (gNm 2) (gsNil))))) (dSeq (dSet 3 (dCB F_run_of (dCons (dV 0) (dCons (dV 2) (dNil))))) (dSeq (dIfS (dB (dBin (fEq false) (dV 3) (dC (.int 0)))) (dRaiseF ("BadText" : Str) ("place" : Str) (dV 2)) (dPass)) (dSeq (dPar3 4 2 5 (dCons (dSl false (dV 0) (dPart (dV 2)) (dPart (dBin (fAdd false) (dV 2) (dV 3)))) (dCons (dBin (fAdd false) (dV 2) (dV 3)) (dCons (dC (.str ("" : Str))) (dNil))))) (dSeq (dIfS (bAnd (dB (dBin (fCmpI iLt) (dV 2) (dCB fLen (dCons (dV 0) (dNil))))) (dB (dBin (fEq false) (dBin fIx (dV 0) (dV 2)) (dC (.str c_POINT))))) (dSeq (dSet 3 (dCB F_run_of (dCons (dV 0) (dCons (dBin (fAdd false) (dV 2) (dC (.int 1))) (dNil))))) (dSeq (dIfS (dB (dBin (fEq false) (dV 3) (dC (.int 0)))) (dRaiseF ("BadText" : Str) ("place" : Str) (dBin (fAdd false) (dV 2) (dC (.int 1)))) (dPass)) (dPar 5 2 (dCons (dSl false (dV 0) (dPart (dBin (fAdd false) (dV 2) (dC (.int 1)))) (dPart (dBin (fAdd false) (dBin (fAdd false) (dV 2) (dC (.int 1))) (dV 3)))) (dCons (dBin (fAdd false) (dBin (fAdd false) (dV 2) (dC (.int 1))) (dV 3)) (dNil)))))) (dPass)) (dSeq (dSet 6 (dC (.int 0))) (dSeq (dIfS (dB (dBin (fCmpI iLt) (dV 2) (dCB fLen (dCons (dV 0) (dNil))))) (dSeq (dIfS (dB (dBin (fEq true) (dBin fIx (dV 0) (dV 2)) (dC (.str c_POWER)))) (dRaiseF ("BadText" : Str) ("place" : Str) (dV 2)) (dPass)) (dSet 6 (dCB F_power_read (dCons (dV 0) (dCons (dBin (fAdd false) (dV 2) (dC (.int 1))) (dNil)))))) (dPass)) (dRet (dTup (dCons (dBin (fMul false) (dV 1) (dCB fIntS (dCons (dBin (fAdd false) (dV 4) (dV 5)) (dNil)))) (dCons (dBin fSub (dV 6) (dCB fLen (dCons (dV 5) (dNil)))) (dNil)))))))))))
def F_raw_read : List PV → Sto → Res PV := runF 1 7 d_raw_read
theorem sc_raw_read : FnScope (["text", "sign", "here", "many", "whole", "behind", "e"] : List Str) (["text"] : List Str) (defScope s_raw_read) := ⟨rfl, rfl, rfl, by decide +kernel, rfl, by decide +kernel, by decide +kernel⟩
theorem fc_raw_read {Z : Wd} (B : Bi Z.mg) (hT : Z.T.lm = none) (h_MINUS : ∃ t, Z.mg "MINUS" = some (.str c_MINUS t)) (h_POINT : ∃ t, Z.mg "POINT" = some (.str c_POINT t)) (h_POWER : ∃ t, Z.mg "POWER" = some (.str c_POWER t)) (e_BadText : EF1 Z.K Z.mg "BadText" "place") (h_run_of : FC Z 1 "run_of" F_run_of) (h_power_read : FC Z 3 "power_read" F_power_read) (D : DefOk Z "raw_read" s_raw_read) : FC Z 4 "raw_read" F_raw_read := by
  have Sc := sc_raw_read
  exact D.fc Sc (fun _ _ _ _ _ _ us hl => match us, hl with | [_], _ => rfl) fun f cdv A outer s H E C => by exact (css_cons (cs_asg (ce_if (ct_cmp (op_eqD (u64 C.u)) sn_eq (ce_sl false (fun h => nomatch h) (ce_v 0) co_none (co_some ce_int)) (ce_gS h_MINUS rfl) rfl) (ce_tup (ca_cons (ce_un un_neg sn_neg ce_int) (ca_cons ce_int ca_nil))) (ce_tup (ca_cons ce_int (ca_cons ce_int ca_nil)))) (cg_tup C.calm (cgs_cons (fun _ _ _ _ _ h => h) (cg_name (i := 1) Sc.nd rfl (Or.inl rfl)) (cgs_cons (fun _ _ _ _ _ h => h) (cg_name (i := 2) Sc.nd rfl (Or.inl rfl)) cgs_nil)))) (css_cons (cs_set (i := 3) Sc.nd rfl (Or.inl rfl) (ce_call h_run_of C (by decide) rfl (ca_cons (ce_v 0) (ca_cons (ce_v 2) ca_nil)))) (css_cons (cs_if (ct_cmp (op_eqD (u64 C.u)) sn_eq (ce_v 3) ce_int rfl) (css_one (cs_raiseF e_BadText C (by decide) rfl (ca_cons (ce_v 2) ca_nil))) css_nil) (css_cons (cs_par3 (i := 4) (j := 2) (l := 5) C.calm Sc.nd rfl rfl rfl (by decide) (by decide) (by decide) rfl rfl rfl (ca_cons (ce_sl false (fun h => nomatch h) (ce_v 0) (co_some (ce_v 2)) (co_some (ce_bin op_addM (sn_add false (fun h => nomatch h)) (ce_v 2) (ce_v 3)))) (ca_cons (ce_bin op_addM (sn_add false (fun h => nomatch h)) (ce_v 2) (ce_v 3)) (ca_cons ce_str ca_nil))) rfl) (css_cons (cs_if (ct_w (cw_and (ct_cmp op_lt (sn_cmpI iLt) (ce_v 2) (ce_callB (x := ("len" : Str)) call_len sl_len rfl B.b_len (by decide +kernel) (ca_cons (ce_v 0) ca_nil)) rfl) (cw_and1 (ct_cmp (op_eqD (u64 C.u)) sn_eq (ce_ix (ce_v 0) (ce_v 2) (fun _ _ => rfl)) (ce_gS h_POINT rfl) rfl)))) (css_cons (cs_set (i := 3) Sc.nd rfl (Or.inl rfl) (ce_call h_run_of C (by decide) rfl (ca_cons (ce_v 0) (ca_cons (ce_bin op_addM (sn_add false (fun h => nomatch h)) (ce_v 2) ce_int) ca_nil)))) (css_cons (cs_if (ct_cmp (op_eqD (u64 C.u)) sn_eq (ce_v 3) ce_int rfl) (css_one (cs_raiseF e_BadText C (by decide) rfl (ca_cons (ce_bin op_addM (sn_add false (fun h => nomatch h)) (ce_v 2) ce_int) ca_nil))) css_nil) (css_one (cs_par (i := 5) (j := 2) C.calm Sc.nd rfl rfl (by decide) rfl rfl (ca_cons (ce_sl false (fun h => nomatch h) (ce_v 0) (co_some (ce_bin op_addM (sn_add false (fun h => nomatch h)) (ce_v 2) ce_int)) (co_some (ce_bin op_addM (sn_add false (fun h => nomatch h)) (ce_bin op_addM (sn_add false (fun h => nomatch h)) (ce_v 2) ce_int) (ce_v 3)))) (ca_cons (ce_bin op_addM (sn_add false (fun h => nomatch h)) (ce_bin op_addM (sn_add false (fun h => nomatch h)) (ce_v 2) ce_int) (ce_v 3)) ca_nil)) rfl)))) css_nil) (css_cons (cs_set (i := 6) Sc.nd rfl (Or.inl rfl) ce_int) (css_cons (cs_if (ct_cmp op_lt (sn_cmpI iLt) (ce_v 2) (ce_callB (x := ("len" : Str)) call_len sl_len rfl B.b_len (by decide +kernel) (ca_cons (ce_v 0) ca_nil)) rfl) (css_cons (cs_if (ct_cmp (op_neD (u64 C.u)) sn_ne (ce_ix (ce_v 0) (ce_v 2) (fun _ _ => rfl)) (ce_gS h_POWER rfl) rfl) (css_one (cs_raiseF e_BadText C (by decide) rfl (ca_cons (ce_v 2) ca_nil))) css_nil) (css_one (cs_set (i := 6) Sc.nd rfl (Or.inl rfl) (ce_call h_power_read C (by decide) rfl (ca_cons (ce_v 0) (ca_cons (ce_bin op_addM (sn_add false (fun h => nomatch h)) (ce_v 2) ce_int) ca_nil)))))) css_nil) (css_one (cs_ret (ce_tup (ca_cons (ce_bin op_mulM (sn_mul false (fun h => nomatch h)) (ce_v 1) (ce_callTy call_int_str sl_intS rfl B.b_int PyProof.Rows.boot_int (ca_cons (ce_bin op_addM (sn_add false (fun h => nomatch h)) (ce_v 4) (ce_v 5)) ca_nil))) (ca_cons (ce_bin op_sub sn_sub (ce_v 6) (ce_callB (x := ("len" : Str)) call_len sl_len rfl B.b_len (by decide +kernel) (ca_cons (ce_v 5) ca_nil))) ca_nil))))))))))))
/-! check_text -/
abbrev s_check_text : Stmt := top 37
def d_check_text : EnP → Sto → SR := dSeq (dIfS (bNot (dTru (dCB fIsi (dCons (dV 0) (dCons (dC (.ty "str")) (dNil)))))) (dRaiseF ("BadText" : Str) ("place" : Str) (dC (.int c_NO_PLACE))) (dPass)) (dIfS (dB (dBin (fCmpI iGt) (dCB fLen (dCons (dV 0) (dNil))) (dC (.int c_MOST_TEXT)))) (dRaiseF ("BadText" : Str) ("place" : Str) (dC (.int c_MOST_TEXT))) (dPass))
def F_check_text : List PV → Sto → Res PV := runF 1 1 d_check_text
theorem sc_check_text : FnScope (["text"] : List Str) (["text"] : List Str) (defScope s_check_text) := ⟨rfl, rfl, rfl, by decide +kernel, rfl, by decide +kernel, by decide +kernel⟩
theorem fc_check_text {Z : Wd} (B : Bi Z.mg) (hT : Z.T.lm = none) (h_NO_PLACE : ∃ t, Z.mg "NO_PLACE" = some (.int c_NO_PLACE t)) (h_MOST_TEXT : ∃ t, Z.mg "MOST_TEXT" = some (.int c_MOST_TEXT t)) (e_BadText : EF1 Z.K Z.mg "BadText" "place") (D : DefOk Z "check_text" s_check_text) : FC Z 3 "check_text" F_check_text := by
  have Sc := sc_check_text
  exact D.fc Sc (fun _ _ _ _ _ _ us hl => match us, hl with | [_], _ => rfl) fun f cdv A outer s H E C => by exact (css_cons (cs_if (ct_not (ct_tru (ce_callB (x := ("isinstance" : Str)) call_isi sl_isi rfl B.b_isinstance PyProof.Rows.boot_isinstance (ca_cons (ce_v 0) (ca_cons (ce_bty rfl B.b_str PyProof.Rows.boot_str) ca_nil))))) (css_one (cs_raiseF e_BadText C (by decide) rfl (ca_cons (ce_gi h_NO_PLACE rfl) ca_nil))) css_nil) (css_one (cs_if (ct_cmp op_gt (sn_cmpI iGt) (ce_callB (x := ("len" : Str)) call_len sl_len rfl B.b_len (by decide +kernel) (ca_cons (ce_v 0) ca_nil)) (ce_gi h_MOST_TEXT rfl) rfl) (css_one (cs_raiseF e_BadText C (by decide) rfl (ca_cons (ce_gi h_MOST_TEXT rfl) ca_nil))) css_nil)))
/-! raw_worth -/
abbrev s_raw_worth : Stmt := top 38
def d_raw_worth : EnP → Sto → SR := dSeq (dSet 2 (dCB F_power_of_ten (dCons (dV 1) (dNil)))) (dRet (dCB F_made (dCons (dBin (fMul false) (dV 0) (dBin fIx (dV 2) (dC (.int 0)))) (dCons (dBin fIx (dV 2) (dC (.int 1))) (dNil)))))
def F_raw_worth : List PV → Sto → Res PV := runF 2 3 d_raw_worth
theorem sc_raw_worth : FnScope (["integer", "e", "by"] : List Str) (["integer", "e"] : List Str) (defScope s_raw_worth) := ⟨rfl, rfl, rfl, by decide +kernel, rfl, by decide +kernel, by decide +kernel⟩
theorem fc_raw_worth {Z : Wd} (B : Bi Z.mg) (hT : Z.T.lm = none) (h_power_of_ten : FC Z 1 "power_of_ten" F_power_of_ten) (h_made : FC Z 2 "made" F_made) (D : DefOk Z "raw_worth" s_raw_worth) : FC Z 3 "raw_worth" F_raw_worth := by
  have Sc := sc_raw_worth
  exact D.fc Sc (fun _ _ _ _ _ _ us hl => match us, hl with | [_, _], _ => rfl) fun f cdv A outer s H E C => by exact (css_cons (cs_set (i := 2) Sc.nd rfl (Or.inl rfl) (ce_call h_power_of_ten C (by decide) rfl (ca_cons (ce_v 1) ca_nil))) (css_one (cs_ret (ce_call h_made C (by decide) rfl (ca_cons (ce_bin op_mulM (sn_mul false (fun h => nomatch h)) (ce_v 0) (ce_ix (ce_v 2) ce_int (fun _ _ => rfl))) (ca_cons (ce_ix (ce_v 2) ce_int (fun _ _ => rfl)) ca_nil))))))
/-! read_exact -/
abbrev s_read_exact : Stmt := top 39
def d_read_exact : EnP → Sto → SR := dSeq (dExpr (dCB F_check_text (dCons (dV 0) (dNil)))) (dSeq (dAsg (dCB F_raw_read (dCons (dV 0) (dNil))) (gTp 2 (gsCons (gNm 1) (gsCons (gNm 2) (gsNil))))) (dRet (dCB F_raw_worth (dCons (dV 1) (dCons (dV 2) (dNil))))))
def F_read_exact : List PV → Sto → Res PV := runF 1 3 d_read_exact
theorem sc_read_exact : FnScope (["text", "integer", "e"] : List Str) (["text"] : List Str) (defScope s_read_exact) := ⟨rfl, rfl, rfl, by decide +kernel, rfl, by decide +kernel, by decide +kernel⟩
theorem fc_read_exact {Z : Wd} (B : Bi Z.mg) (hT : Z.T.lm = none) (h_check_text : FC Z 3 "check_text" F_check_text) (h_raw_read : FC Z 4 "raw_read" F_raw_read) (h_raw_worth : FC Z 3 "raw_worth" F_raw_worth) (D : DefOk Z "read_exact" s_read_exact) : FC Z 5 "read_exact" F_read_exact := by
  have Sc := sc_read_exact
  exact D.fc Sc (fun _ _ _ _ _ _ us hl => match us, hl with | [_], _ => rfl) fun f cdv A outer s H E C => by exact (css_cons (cs_expr (ce_call h_check_text C (by decide) rfl (ca_cons (ce_v 0) ca_nil))) (css_cons (cs_asg (ce_call h_raw_read C (by decide) rfl (ca_cons (ce_v 0) ca_nil)) (cg_tup C.calm (cgs_cons (fun _ _ _ _ _ h => h) (cg_name (i := 1) Sc.nd rfl (Or.inl rfl)) (cgs_cons (fun _ _ _ _ _ h => h) (cg_name (i := 2) Sc.nd rfl (Or.inl rfl)) cgs_nil)))) (css_one (cs_ret (ce_call h_raw_worth C (by decide) rfl (ca_cons (ce_v 1) (ca_cons (ce_v 2) ca_nil)))))))
/-! _law_hand -/
abbrev s_law_hand_L : Stmt := top 41
def d_law_hand_L : EnP → Sto → SR := dSeq (dSet 1 (dLc false (iSeq (dSl false (dV 0) (dNoPart) (dPart (dC (.int 63))))) (cNm 2) (dYes) (dBin fMod (dCB fInt (dCons (dCB fAbs (dCons (dCB fInt (dCons (dV 2) (dNil))) (dNil))) (dNil))) (dBin fPow (dC (.int 10)) (dC (.int 36)))) [2])) (dRet (dLst true (dCons (dV 1) (dCons (dC (.int 0)) (dCons (dC (.int 0)) (dCons (dBin (fAdd false) (dC (.int 2273)) (dBin (fMul false) (dC (.int 7)) (dCB fLen (dCons (dV 1) (dNil))))) (dCons (dC (.int 0)) (dNil))))))))
def F_law_hand_L : List PV → Sto → Res PV := runF 1 3 d_law_hand_L
theorem sc_law_hand_L : FnScope (["script", "cells", "cell"] : List Str) (["script"] : List Str) (defScope s_law_hand_L) := ⟨rfl, rfl, rfl, by decide +kernel, rfl, by decide +kernel, by decide +kernel⟩
theorem fc_law_hand_L {Z : Wd} (B : Bi Z.mg) (hT : Z.T.lm = none) (D : DefOk Z "_law_hand" s_law_hand_L) : FC Z 1 "_law_hand" F_law_hand_L := by
  have Sc := sc_law_hand_L
  exact D.fc Sc (fun _ _ _ _ _ _ us hl => match us, hl with | [_], _ => rfl) fun f cdv A outer s H E C => by exact (css_cons (cs_lcC false (fun h => nomatch h) C Sc.nd rfl rfl (sw_true rfl rfl rfl rfl) (ci_seq (ce_sl false (fun h => nomatch h) (ce_v 0) co_none (co_some ce_int))) (show BlkOk (["script", "cells", "cell"] : List Str) (defScope s_law_hand_L) _ [(("cell" : Str), 2)] from blkOk_by (by decide +kernel)) (fun _ _ _ _ _ C => (pg_name (i := 2) Sc.nd rfl (Or.inl rfl) (Or.inr rfl))) (tgc_name (by decide)) (fun _ _ _ _ _ _ => pts_yes) (fun _ _ _ _ _ C => (ce_bin op_modN sn_mod (ce_callTy call_int1 sl_int rfl B.b_int PyProof.Rows.boot_int (ca_cons (ce_callB (x := ("abs" : Str)) call_abs sl_abs rfl B.b_abs PyProof.Rows.boot_abs (ca_cons (ce_callTy call_int1 sl_int rfl B.b_int PyProof.Rows.boot_int (ca_cons (ce_v 2) ca_nil)) ca_nil)) ca_nil)) (ce_bin op_pow sn_pow ce_int ce_int)))) (css_one (cs_ret (ce_lst true (fun _ => gm_bare C.room.hd hT) (ca_cons (ce_v 1) (ca_cons ce_int (ca_cons ce_int (ca_cons (ce_bin op_addM (sn_add false (fun h => nomatch h)) ce_int (ce_bin op_mulM (sn_mul false (fun h => nomatch h)) ce_int (ce_callB (x := ("len" : Str)) call_len sl_len rfl B.b_len (by decide +kernel) (ca_cons (ce_v 1) ca_nil)))) (ca_cons ce_int ca_nil)))))))))
/-! _law_draw -/
abbrev s_law_draw_L : Stmt := top 42
def d_law_draw_L : EnP → Sto → SR := dSeq (dIfS (bAnd (dB (dBin (fEq false) (dBin fIx (dV 0) (dC (.int 2))) (dC (.int 0)))) (dB (dBin (fCmpI iLt) (dBin fIx (dV 0) (dC (.int 1))) (dCB fLen (dCons (dBin fIx (dV 0) (dC (.int 0))) (dNil)))))) (dSeq (dSet 2 (dBin fIx (dBin fIx (dV 0) (dC (.int 0))) (dBin fIx (dV 0) (dC (.int 1))))) (dSeq (dAsg (dBin (fAdd false) (dBin fIx (dV 0) (dC (.int 1))) (dC (.int 1))) (gIx (dV 0) (dC (.int 1)))) (dSeq (dAsg (dBin fMod (dCB fInt (dCons (dBin (fAdd false) (dBin (fAdd false) (dBin (fMul false) (dBin fIx (dV 0) (dC (.int 3))) (dC (.int 69621))) (dBin (fMul false) (dV 2) (dC (.int 40692)))) (dC (.int 23))) (dNil))) (dC (.int 2147483629))) (gIx (dV 0) (dC (.int 3)))) (dIfS (dB (dBin (fCmpI iGe) (dV 2) (dBin fPow (dC (.int 10)) (dC (.int 18))))) (dAsg (dV 2) (gIx (dV 0) (dC (.int 2)))) (dPass))))) (dPass)) (dSeq (dIfS (dB (dBin (fCmpI iGt) (dBin fIx (dV 0) (dC (.int 2))) (dC (.int 0)))) (dSeq (dSet 3 (dBin fMod (dCB fInt (dCons (dBin fIx (dV 0) (dC (.int 2))) (dNil))) (dV 1))) (dSeq (dAsg (dBin fDiv (dBin fIx (dV 0) (dC (.int 2))) (dV 1)) (gIx (dV 0) (dC (.int 2)))) (dRet (dV 3)))) (dPass)) (dSeq (dAsg (dBin (fAdd false) (dBin fIx (dV 0) (dC (.int 4))) (dC (.int 1))) (gIx (dV 0) (dC (.int 4)))) (dSeq (dSet 4 (dBin fMod (dCB fInt (dCons (dBin (fMul false) (dCB fInt (dCons (dBin (fAdd false) (dBin fIx (dV 0) (dC (.int 3))) (dBin (fMul false) (dC (.int 7919)) (dBin fIx (dV 0) (dC (.int 4))))) (dNil))) (dC (.int 48271))) (dNil))) (dC (.int 2147483647)))) (dSeq (dSet 4 (dBin fMod (dCB fInt (dCons (dBin (fMul false) (dV 4) (dBin (fAdd false) (dBin fDiv (dV 4) (dC (.int 1009))) (dC (.int 69621)))) (dNil))) (dC (.int 2147483647)))) (dSeq (dSet 4 (dBin fMod (dCB fInt (dCons (dBin (fMul false) (dV 4) (dBin (fAdd false) (dBin fDiv (dV 4) (dC (.int 2003))) (dC (.int 40014)))) (dNil))) (dC (.int 2147483563)))) (dRet (dBin fMod (dCB fInt (dCons (dBin fDiv (dV 4) (dC (.int 16))) (dNil))) (dV 1))))))))
def F_law_draw_L : List PV → Sto → Res PV := runF 2 5 d_law_draw_L
theorem sc_law_draw_L : FnScope (["hand", "many", "cell", "digit", "number"] : List Str) (["hand", "many"] : List Str) (defScope s_law_draw_L) := ⟨rfl, rfl, rfl, by decide +kernel, rfl, by decide +kernel, by decide +kernel⟩
theorem fc_law_draw_L {Z : Wd} (B : Bi Z.mg) (hT : Z.T.lm = none) (D : DefOk Z "_law_draw" s_law_draw_L) : FC Z 1 "_law_draw" F_law_draw_L := by
  have Sc := sc_law_draw_L
  exact D.fc Sc (fun _ _ _ _ _ _ us hl => match us, hl with | [_, _], _ => rfl) fun f cdv A outer s H E C => by exact (css_cons (cs_if (ct_w (cw_and (ct_cmp (op_eqD (u64 C.u)) sn_eq (ce_ix (ce_v 0) ce_int (fun _ _ => rfl)) ce_int rfl) (cw_and1 (ct_cmp op_lt (sn_cmpI iLt) (ce_ix (ce_v 0) ce_int (fun _ _ => rfl)) (ce_callB (x := ("len" : Str)) call_len sl_len rfl B.b_len (by decide +kernel) (ca_cons (ce_ix (ce_v 0) ce_int (fun _ _ => rfl)) ca_nil)) rfl)))) (css_cons (cs_set (i := 2) Sc.nd rfl (Or.inl rfl) (ce_ix (ce_ix (ce_v 0) ce_int (fun _ _ => rfl)) (ce_ix (ce_v 0) ce_int (fun _ _ => rfl)) (fun _ _ => rfl))) (css_cons (cs_asg (ce_bin op_addM (sn_add false (fun h => nomatch h)) (ce_ix (ce_v 0) ce_int (fun _ _ => rfl)) ce_int) (cg_ix (gm_bare C.room.hd hT) (ce_v 0) ce_int)) (css_cons (cs_asg (ce_bin op_modN sn_mod (ce_callTy call_int1 sl_int rfl B.b_int PyProof.Rows.boot_int (ca_cons (ce_bin op_addM (sn_add false (fun h => nomatch h)) (ce_bin op_addM (sn_add false (fun h => nomatch h)) (ce_bin op_mulM (sn_mul false (fun h => nomatch h)) (ce_ix (ce_v 0) ce_int (fun _ _ => rfl)) ce_int) (ce_bin op_mulM (sn_mul false (fun h => nomatch h)) (ce_v 2) ce_int)) ce_int) ca_nil)) ce_int) (cg_ix (gm_bare C.room.hd hT) (ce_v 0) ce_int)) (css_one (cs_if (ct_cmp op_ge (sn_cmpI iGe) (ce_v 2) (ce_bin op_pow sn_pow ce_int ce_int) rfl) (css_one (cs_asg (ce_v 2) (cg_ix (gm_bare C.room.hd hT) (ce_v 0) ce_int))) css_nil))))) css_nil) (css_cons (cs_if (ct_cmp op_gt (sn_cmpI iGt) (ce_ix (ce_v 0) ce_int (fun _ _ => rfl)) ce_int rfl) (css_cons (cs_set (i := 3) Sc.nd rfl (Or.inl rfl) (ce_bin op_modN sn_mod (ce_callTy call_int1 sl_int rfl B.b_int PyProof.Rows.boot_int (ca_cons (ce_ix (ce_v 0) ce_int (fun _ _ => rfl)) ca_nil)) (ce_v 1))) (css_cons (cs_asg (ce_bin op_fdivA sn_div (ce_ix (ce_v 0) ce_int (fun _ _ => rfl)) (ce_v 1)) (cg_ix (gm_bare C.room.hd hT) (ce_v 0) ce_int)) (css_one (cs_ret (ce_v 3))))) css_nil) (css_cons (cs_asg (ce_bin op_addM (sn_add false (fun h => nomatch h)) (ce_ix (ce_v 0) ce_int (fun _ _ => rfl)) ce_int) (cg_ix (gm_bare C.room.hd hT) (ce_v 0) ce_int)) (css_cons (cs_set (i := 4) Sc.nd rfl (Or.inl rfl) (ce_bin op_modN sn_mod (ce_callTy call_int1 sl_int rfl B.b_int PyProof.Rows.boot_int (ca_cons (ce_bin op_mulM (sn_mul false (fun h => nomatch h)) (ce_callTy call_int1 sl_int rfl B.b_int PyProof.Rows.boot_int (ca_cons (ce_bin op_addM (sn_add false (fun h => nomatch h)) (ce_ix (ce_v 0) ce_int (fun _ _ => rfl)) (ce_bin op_mulM (sn_mul false (fun h => nomatch h)) ce_int (ce_ix (ce_v 0) ce_int (fun _ _ => rfl)))) ca_nil)) ce_int) ca_nil)) ce_int)) (css_cons (cs_set (i := 4) Sc.nd rfl (Or.inl rfl) (ce_bin op_modN sn_mod (ce_callTy call_int1 sl_int rfl B.b_int PyProof.Rows.boot_int (ca_cons (ce_bin op_mulM (sn_mul false (fun h => nomatch h)) (ce_v 4) (ce_bin op_addM (sn_add false (fun h => nomatch h)) (ce_bin op_fdivA sn_div (ce_v 4) ce_int) ce_int)) ca_nil)) ce_int)) (css_cons (cs_set (i := 4) Sc.nd rfl (Or.inl rfl) (ce_bin op_modN sn_mod (ce_callTy call_int1 sl_int rfl B.b_int PyProof.Rows.boot_int (ca_cons (ce_bin op_mulM (sn_mul false (fun h => nomatch h)) (ce_v 4) (ce_bin op_addM (sn_add false (fun h => nomatch h)) (ce_bin op_fdivA sn_div (ce_v 4) ce_int) ce_int)) ca_nil)) ce_int)) (css_one (cs_ret (ce_bin op_modN sn_mod (ce_callTy call_int1 sl_int rfl B.b_int PyProof.Rows.boot_int (ca_cons (ce_bin op_fdivA sn_div (ce_v 4) ce_int) ca_nil)) (ce_v 1))))))))))
/-! _law_any -/
abbrev s_law_any_L : Stmt := top 43
def d_law_any_L : EnP → Sto → SR := dRet (dBin fIx (dV 1) (dCB F_law_draw_L (dCons (dV 0) (dCons (dCB fLen (dCons (dV 1) (dNil))) (dNil)))))
def F_law_any_L : List PV → Sto → Res PV := runF 2 2 d_law_any_L
theorem sc_law_any_L : FnScope (["hand", "some"] : List Str) (["hand", "some"] : List Str) (defScope s_law_any_L) := ⟨rfl, rfl, rfl, by decide +kernel, rfl, by decide +kernel, by decide +kernel⟩
theorem fc_law_any_L {Z : Wd} (B : Bi Z.mg) (hT : Z.T.lm = none) (h_law_draw_L : FC Z 1 "_law_draw" F_law_draw_L) (D : DefOk Z "_law_any" s_law_any_L) : FC Z 2 "_law_any" F_law_any_L := by
  have Sc := sc_law_any_L
  exact D.fc Sc (fun _ _ _ _ _ _ us hl => match us, hl with | [_, _], _ => rfl) fun f cdv A outer s H E C => by exact (css_one (cs_ret (ce_ix (ce_v 1) (ce_call h_law_draw_L C (by decide) rfl (ca_cons (ce_v 0) (ca_cons (ce_callB (x := ("len" : Str)) call_len sl_len rfl B.b_len (by decide +kernel) (ca_cons (ce_v 1) ca_nil)) ca_nil))) (fun _ _ => rfl))))
/-! _law_is -/
abbrev s_law_is_L : Stmt := top 44
def d_law_is_L (Fr : List PV → Sto → Res PV) : EnP → Sto → SR := dSeq (dIfS (bOr (dTru (dCB fIsi (dCons (dV 1) (dCons (dC (.ty "tuple")) (dNil))))) (dTru (dCB fIsi (dCons (dV 1) (dCons (dC (.ty "list")) (dNil)))))) (dSeq (dIfS (bOr (dB (dBin (fEq true) (dCB fIsi (dCons (dV 0) (dCons (dC (.ty "tuple")) (dNil)))) (dCB fIsi (dCons (dV 1) (dCons (dC (.ty "tuple")) (dNil)))))) (dB (dBin (fEq true) (dCB fIsi (dCons (dV 0) (dCons (dC (.ty "list")) (dNil)))) (dCB fIsi (dCons (dV 1) (dCons (dC (.ty "list")) (dNil))))))) (dRet (dC (.bl false))) (dPass)) (dSeq (dIfS (dB (dBin (fEq true) (dCB fLen (dCons (dV 0) (dNil))) (dCB fLen (dCons (dV 1) (dNil))))) (dRet (dC (.bl false))) (dPass)) (dRet (dCB fAll (dCons (dLc false (iZip2 (dCons (dV 0) (dCons (dV 1) (dNil)))) (cTup 2 (cCons (cNm 2) (cCons (cNm 3) (cNil)))) (dYes) (dCB Fr (dCons (dV 2) (dCons (dV 3) (dNil)))) [2, 3]) (dNil)))))) (dPass)) (dSeq (dIfS (bOr (dB (dBin (fIsN false) (dV 1) (dC .non))) (dB (dBin (fIsN false) (dV 0) (dC .non)))) (dRet (dAnd (dBin (fIsN false) (dV 1) (dC .non)) (dBin (fIsN false) (dV 0) (dC .non)))) (dPass)) (dSeq (dIfS (bOr (dB (dBin (fEq true) (dCB fIsi (dCons (dV 0) (dCons (dC (.ty "bool")) (dNil)))) (dCB fIsi (dCons (dV 1) (dCons (dC (.ty "bool")) (dNil)))))) (dB (dBin (fEq true) (dCB fIsi (dCons (dV 0) (dCons (dC (.ty "int")) (dNil)))) (dCB fIsi (dCons (dV 1) (dCons (dC (.ty "int")) (dNil))))))) (dRet (dC (.bl false))) (dPass)) (dRet (dAnd (dBin (fEq false) (dCB fIsi (dCons (dV 0) (dCons (dC (.ty "str")) (dNil)))) (dCB fIsi (dCons (dV 1) (dCons (dC (.ty "str")) (dNil))))) (dBin (fEq false) (dV 0) (dV 1))))))
def R_law_is_L : Nat → List PV → Sto → Res PV
  | 0 => runF 2 4 (fun _ _ => .bad)
  | n + 1 => runF 2 4 (d_law_is_L (R_law_is_L n))
def F_law_is_L : List PV → Sto → Res PV := R_law_is_L 6
theorem sc_law_is_L : FnScope (["said", "due", "one", "other"] : List Str) (["said", "due"] : List Str) (defScope s_law_is_L) := ⟨rfl, rfl, rfl, by decide +kernel, rfl, by decide +kernel, by decide +kernel⟩
theorem fr_law_is_L {Z : Wd} (B : Bi Z.mg) (hT : Z.T.lm = none) (D : DefOk Z "_law_is" s_law_is_L) : ∀ n : Nat, FC Z (n + 1) "_law_is" (R_law_is_L n)
  | 0 => D.fc sc_law_is_L (fun _ _ _ _ _ _ us hl => match us, hl with | [_, _], _ => rfl) fun f cdv A outer s H E C => css_bad
  | n + 1 => by
    have h_rec := fr_law_is_L B hT D n
    have Sc := sc_law_is_L
    exact D.fc Sc (fun _ _ _ _ _ _ us hl => match us, hl with | [_, _], _ => rfl) fun f cdv A outer s H E C => by exact (css_cons (cs_if (ct_w (cw_or (ct_tru (ce_callB (x := ("isinstance" : Str)) call_isi sl_isi rfl B.b_isinstance PyProof.Rows.boot_isinstance (ca_cons (ce_v 1) (ca_cons (ce_bty rfl B.b_tuple PyProof.Rows.boot_tuple) ca_nil)))) (cw_or1 (ct_tru (ce_callB (x := ("isinstance" : Str)) call_isi sl_isi rfl B.b_isinstance PyProof.Rows.boot_isinstance (ca_cons (ce_v 1) (ca_cons (ce_bty rfl B.b_list PyProof.Rows.boot_list) ca_nil))))))) (css_cons (cs_if (ct_w (cw_or (ct_cmp (op_neD (u64 C.u)) sn_ne (ce_callB (x := ("isinstance" : Str)) call_isi sl_isi rfl B.b_isinstance PyProof.Rows.boot_isinstance (ca_cons (ce_v 0) (ca_cons (ce_bty rfl B.b_tuple PyProof.Rows.boot_tuple) ca_nil))) (ce_callB (x := ("isinstance" : Str)) call_isi sl_isi rfl B.b_isinstance PyProof.Rows.boot_isinstance (ca_cons (ce_v 1) (ca_cons (ce_bty rfl B.b_tuple PyProof.Rows.boot_tuple) ca_nil))) rfl) (cw_or1 (ct_cmp (op_neD (u64 C.u)) sn_ne (ce_callB (x := ("isinstance" : Str)) call_isi sl_isi rfl B.b_isinstance PyProof.Rows.boot_isinstance (ca_cons (ce_v 0) (ca_cons (ce_bty rfl B.b_list PyProof.Rows.boot_list) ca_nil))) (ce_callB (x := ("isinstance" : Str)) call_isi sl_isi rfl B.b_isinstance PyProof.Rows.boot_isinstance (ca_cons (ce_v 1) (ca_cons (ce_bty rfl B.b_list PyProof.Rows.boot_list) ca_nil))) rfl)))) (css_one (cs_ret ce_bl)) css_nil) (css_cons (cs_if (ct_cmp (op_neD (u64 C.u)) sn_ne (ce_callB (x := ("len" : Str)) call_len sl_len rfl B.b_len (by decide +kernel) (ca_cons (ce_v 0) ca_nil)) (ce_callB (x := ("len" : Str)) call_len sl_len rfl B.b_len (by decide +kernel) (ca_cons (ce_v 1) ca_nil)) rfl) (css_one (cs_ret ce_bl)) css_nil) (css_one (cs_ret (ce_callB (x := ("all" : Str)) (cr_all C.calm) sl_all rfl B.b_all (by decide +kernel) (ca_cons (ce_lcC false (fun h => nomatch h) C Sc.nd (ci_zip rfl B.b_zip (ca_cons (ce_v 0) (ca_cons (ce_v 1) ca_nil))) (show BlkOk (["said", "due", "one", "other"] : List Str) (defScope s_law_is_L) _ [(("one" : Str), 2), (("other" : Str), 3)] from blkOk_by (by decide +kernel)) (fun _ _ _ _ _ C => (pg_tup C.calm (pgs_cons (pg_name (i := 2) Sc.nd rfl (Or.inl rfl) (Or.inr rfl)) (pgs_cons (pg_name (i := 3) Sc.nd rfl (Or.inl rfl) (Or.inr rfl)) pgs_nil rfl) rfl) rfl rfl)) (tgc_tup (tgcs_cons (tgc_name (by decide)) (tgcs_cons (tgc_name (by decide)) tgcs_nil))) (fun _ _ _ _ _ _ => pts_yes) (fun _ _ _ _ _ C => (ce_call h_rec C (by omega) rfl (ca_cons (ce_v 2) (ca_cons (ce_v 3) ca_nil))))) ca_nil)))))) css_nil) (css_cons (cs_if (ct_w (cw_or (ct_cmp op_isN sn_isN (ce_v 1) ce_non rfl) (cw_or1 (ct_cmp op_isN sn_isN (ce_v 0) ce_non rfl)))) (css_one (cs_ret (ce_and (ce_cmp op_isN sn_isN (ce_v 1) ce_non rfl) (ce_one (ce_cmp op_isN sn_isN (ce_v 0) ce_non rfl))))) css_nil) (css_cons (cs_if (ct_w (cw_or (ct_cmp (op_neD (u64 C.u)) sn_ne (ce_callB (x := ("isinstance" : Str)) call_isi sl_isi rfl B.b_isinstance PyProof.Rows.boot_isinstance (ca_cons (ce_v 0) (ca_cons (ce_bty rfl B.b_bool PyProof.Rows.boot_bool) ca_nil))) (ce_callB (x := ("isinstance" : Str)) call_isi sl_isi rfl B.b_isinstance PyProof.Rows.boot_isinstance (ca_cons (ce_v 1) (ca_cons (ce_bty rfl B.b_bool PyProof.Rows.boot_bool) ca_nil))) rfl) (cw_or1 (ct_cmp (op_neD (u64 C.u)) sn_ne (ce_callB (x := ("isinstance" : Str)) call_isi sl_isi rfl B.b_isinstance PyProof.Rows.boot_isinstance (ca_cons (ce_v 0) (ca_cons (ce_bty rfl B.b_int PyProof.Rows.boot_int) ca_nil))) (ce_callB (x := ("isinstance" : Str)) call_isi sl_isi rfl B.b_isinstance PyProof.Rows.boot_isinstance (ca_cons (ce_v 1) (ca_cons (ce_bty rfl B.b_int PyProof.Rows.boot_int) ca_nil))) rfl)))) (css_one (cs_ret ce_bl)) css_nil) (css_one (cs_ret (ce_and (ce_cmp (op_eqD (u64 C.u)) sn_eq (ce_callB (x := ("isinstance" : Str)) call_isi sl_isi rfl B.b_isinstance PyProof.Rows.boot_isinstance (ca_cons (ce_v 0) (ca_cons (ce_bty rfl B.b_str PyProof.Rows.boot_str) ca_nil))) (ce_callB (x := ("isinstance" : Str)) call_isi sl_isi rfl B.b_isinstance PyProof.Rows.boot_isinstance (ca_cons (ce_v 1) (ca_cons (ce_bty rfl B.b_str PyProof.Rows.boot_str) ca_nil))) rfl) (ce_one (ce_cmp (op_eqD (u64 C.u)) sn_eq (ce_v 0) (ce_v 1) rfl))))))))
theorem fc_law_is_L {Z : Wd} (B : Bi Z.mg) (hT : Z.T.lm = none) (D : DefOk Z "_law_is" s_law_is_L) : FC Z 7 "_law_is" F_law_is_L := fr_law_is_L B hT D 6
/-! _law_frac -/
abbrev s_law_frac_L : Stmt := top 45
def d_law_frac_L : EnP → Sto → SR := dSeq (dPar 2 3 (dCons (dCB fAbs (dCons (dV 0) (dNil))) (dCons (dV 1) (dNil)))) (dSeq (whileP (dB (dBin (fCmpI iGt) (dV 2) (dC (.int 0)))) (dPar 2 3 (dCons (dBin fMod (dCB fInt (dCons (dV 3) (dNil))) (dV 2)) (dCons (dV 2) (dNil)))) fuel) (dRet (dTup (dCons (dBin fDiv (dV 0) (dV 3)) (dCons (dBin fDiv (dV 1) (dV 3)) (dNil))))))
def F_law_frac_L : List PV → Sto → Res PV := runF 2 4 d_law_frac_L
theorem sc_law_frac_L : FnScope (["top", "bottom", "one", "other"] : List Str) (["top", "bottom"] : List Str) (defScope s_law_frac_L) := ⟨rfl, rfl, rfl, by decide +kernel, rfl, by decide +kernel, by decide +kernel⟩
theorem fc_law_frac_L {Z : Wd} (B : Bi Z.mg) (hT : Z.T.lm = none) (D : DefOk Z "_law_frac" s_law_frac_L) : FC Z 1 "_law_frac" F_law_frac_L := by
  have Sc := sc_law_frac_L
  exact D.fc Sc (fun _ _ _ _ _ _ us hl => match us, hl with | [_, _], _ => rfl) fun f cdv A outer s H E C => by exact (css_cons (cs_par (i := 2) (j := 3) C.calm Sc.nd rfl rfl (by decide) rfl rfl (ca_cons (ce_callB (x := ("abs" : Str)) call_abs sl_abs rfl B.b_abs PyProof.Rows.boot_abs (ca_cons (ce_v 0) ca_nil)) (ca_cons (ce_v 1) ca_nil)) rfl) (css_cons (cs_while fuel C.po (ct_cmp op_gt (sn_cmpI iGt) (ce_v 2) ce_int rfl) (css_one (cs_par (i := 2) (j := 3) C.calm Sc.nd rfl rfl (by decide) rfl rfl (ca_cons (ce_bin op_modN sn_mod (ce_callTy call_int1 sl_int rfl B.b_int PyProof.Rows.boot_int (ca_cons (ce_v 3) ca_nil)) (ce_v 2)) (ca_cons (ce_v 2) ca_nil)) rfl))) (css_one (cs_ret (ce_tup (ca_cons (ce_bin op_fdivA sn_div (ce_v 0) (ce_v 3)) (ca_cons (ce_bin op_fdivA sn_div (ce_v 1) (ce_v 3)) ca_nil)))))))
/-! _law_mul -/
abbrev s_law_mul_L : Stmt := top 46
def d_law_mul_L : EnP → Sto → SR := dRet (dCB F_law_frac_L (dCons (dBin (fMul false) (dBin fIx (dV 0) (dC (.int 0))) (dBin fIx (dV 1) (dC (.int 0)))) (dCons (dBin (fMul false) (dBin fIx (dV 0) (dC (.int 1))) (dBin fIx (dV 1) (dC (.int 1)))) (dNil))))
def F_law_mul_L : List PV → Sto → Res PV := runF 2 2 d_law_mul_L
theorem sc_law_mul_L : FnScope (["one", "other"] : List Str) (["one", "other"] : List Str) (defScope s_law_mul_L) := ⟨rfl, rfl, rfl, by decide +kernel, rfl, by decide +kernel, by decide +kernel⟩
theorem fc_law_mul_L {Z : Wd} (B : Bi Z.mg) (hT : Z.T.lm = none) (h_law_frac_L : FC Z 1 "_law_frac" F_law_frac_L) (D : DefOk Z "_law_mul" s_law_mul_L) : FC Z 2 "_law_mul" F_law_mul_L := by
  have Sc := sc_law_mul_L
  exact D.fc Sc (fun _ _ _ _ _ _ us hl => match us, hl with | [_, _], _ => rfl) fun f cdv A outer s H E C => by exact (css_one (cs_ret (ce_call h_law_frac_L C (by decide) rfl (ca_cons (ce_bin op_mulM (sn_mul false (fun h => nomatch h)) (ce_ix (ce_v 0) ce_int (fun _ _ => rfl)) (ce_ix (ce_v 1) ce_int (fun _ _ => rfl))) (ca_cons (ce_bin op_mulM (sn_mul false (fun h => nomatch h)) (ce_ix (ce_v 0) ce_int (fun _ _ => rfl)) (ce_ix (ce_v 1) ce_int (fun _ _ => rfl))) ca_nil)))))
/-! _law_place -/
abbrev s_law_place_L : Stmt := top 47
def d_law_place_L (K : Sto → Res PV) : EnP → Sto → SR := dSeq (dTry 1 catT (dExpr (dAct 0 K)) (fun c1 fs => dSeq (dIfS (dTru (dCB (fIsE (isF fs (isT c1))) (dCons (dV 1) (dCons (dC (.glb ("BadText" : Str))) (dNil))))) (dRet (dErrFld (isF fs (isT c1)) "BadText" "place" c1 fs 1)) (dPass)) (dRet (dIf (dTru (dCB (fIsE (isF fs (isT c1))) (dCons (dV 1) (dCons (dC (.glb ("NoFraction" : Str))) (dNil))))) (dC (.str ("fraction" : Str))) (dC (.str ("other" : Str))))))) (dRet (dC .non))
def G_law_place_L : (Sto → Res PV) → Sto → Res PV := lamF 2 d_law_place_L
theorem sc_law_place_L : FnScope (["call", "error"] : List Str) (["call"] : List Str) (defScope s_law_place_L) := ⟨rfl, rfl, rfl, by decide +kernel, rfl, by decide +kernel, by decide +kernel⟩
theorem fl_law_place_L {Z : Wd} (B : Bi Z.mg) (hT : Z.T.lm = none) (e_BadText : EF1 Z.K Z.mg "BadText" "place") (e_NoFraction : EC Z.K Z.mg "NoFraction") {CR : Addr} (hCR : Z.mg "RoundError" = some (.ref CR)) (hcat : ∀ c b, catT c = some b → ∀ C, Z.mg c = some (.ref C) → PySem.W.exmOne Z.K (.ref C) (.ref CR) = some b) (hE : ∀ c C fs (d : Option Addr), Z.mg c = some (.ref C) → (fs = [] → d = none) → (ExcC Z.K C ∧ IsT Z.K Z.mg C (isF fs (isT c))) ∨ ∀ t, isF fs (isT c) t = none) (D : DefOk Z "_law_place" s_law_place_L) : FL Z 0 "_law_place" G_law_place_L := by
  have Sc := sc_law_place_L
  exact D.fl Sc (fun _ _ _ _ _ _ us hl => match us, hl with | [_], _ => rfl) rfl (Or.inl rfl) fun i K f cdv A outer s H E C act => by exact (css_cons (cs_try rfl rfl Sc.nd rfl rfl ⟨rfl, by decide, .inl hCR⟩ C.tk hcat (fun W1 pn xe tk1 po1 => (css_one (cs_expr (act pn xe W1 _ _ tk1)))) (fun c1 fs D a1 oe1 dd ws1 pn1 h1 h2 h3 hz hv => (css_cons (cs_if (ct_tru (ce_isE (hE c1 D fs dd h1 h2) hz hv B.b_isinstance rfl (ca_cons (ce_v 1) (ca_cons (ce_geF e_BadText rfl) ca_nil)))) (css_one (cs_ret (ce_errFld e_BadText h1 h3 (hE c1 D fs dd h1 h2) hz hv (ce_v 1)))) css_nil) (css_one (cs_ret (ce_if (ct_tru (ce_isE (hE c1 D fs dd h1 h2) hz hv B.b_isinstance rfl (ca_cons (ce_v 1) (ca_cons (ce_ge e_NoFraction rfl) ca_nil)))) ce_str ce_str)))))) (css_one (cs_ret ce_non)))
/-! _law_power -/
abbrev s_law_power_L : Stmt := top 48
def d_law_power_L : EnP → Sto → SR := dSeq (dSet 2 (dC (.int 1))) (dSeq (dFor (iRange (dCons (dCB fAbs (dCons (dV 1) (dNil))) (dNil))) (gNm 3) (dSet 2 (dBin (fMul false) (dV 2) (dV 0)))) (dRet (dIf (dB (dBin (fCmpI iGe) (dV 1) (dC (.int 0)))) (dTup (dCons (dV 2) (dCons (dC (.int 1)) (dNil)))) (dTup (dCons (dC (.int 1)) (dCons (dV 2) (dNil)))))))
def F_law_power_L : List PV → Sto → Res PV := runF 2 4 d_law_power_L
theorem sc_law_power_L : FnScope (["base", "many", "found", "turn"] : List Str) (["base", "many"] : List Str) (defScope s_law_power_L) := ⟨rfl, rfl, rfl, by decide +kernel, rfl, by decide +kernel, by decide +kernel⟩
theorem fc_law_power_L {Z : Wd} (B : Bi Z.mg) (hT : Z.T.lm = none) (D : DefOk Z "_law_power" s_law_power_L) : FC Z 1 "_law_power" F_law_power_L := by
  have Sc := sc_law_power_L
  exact D.fc Sc (fun _ _ _ _ _ _ us hl => match us, hl with | [_, _], _ => rfl) fun f cdv A outer s H E C => by exact (css_cons (cs_set (i := 2) Sc.nd rfl (Or.inl rfl) ce_int) (css_cons (cs_for C.po C.calm (ci_range1 rfl B.b_range (ca_cons (ce_callB (x := ("abs" : Str)) call_abs sl_abs rfl B.b_abs PyProof.Rows.boot_abs (ca_cons (ce_v 1) ca_nil)) ca_nil) rfl len1) (cg_name (i := 3) Sc.nd rfl (Or.inl rfl)) (css_one (cs_set (i := 2) Sc.nd rfl (Or.inl rfl) (ce_bin op_mulM (sn_mul false (fun h => nomatch h)) (ce_v 2) (ce_v 0))))) (css_one (cs_ret (ce_if (ct_cmp op_ge (sn_cmpI iGe) (ce_v 1) ce_int rfl) (ce_tup (ca_cons (ce_v 2) (ca_cons ce_int ca_nil))) (ce_tup (ca_cons ce_int (ca_cons (ce_v 2) ca_nil))))))))
/-! _law_told_text -/
abbrev s_law_told_text_L : Stmt := top 49
def d_law_told_text_L : EnP → Sto → SR := dSeq (dIfS (bNot (dTru (dCB fIsi (dCons (dV 0) (dCons (dC (.ty "str")) (dNil)))))) (dRet (dUn fNeg (dC (.int 1)))) (dPass)) (dSeq (dIfS (dB (dBin (fCmpI iGt) (dCB fLen (dCons (dV 0) (dNil))) (dC (.int 300)))) (dRet (dC (.int 300))) (dPass)) (dSeq (dAsg (dTup (dCons (dC (.int 0)) (dCons (dC (.int 1)) (dCons (dC (.str ("0123456789" : Str))) (dNil))))) (gTp 3 (gsCons (gNm 1) (gsCons (gNm 2) (gsCons (gNm 3) (gsNil)))))) (dSeq (dIfS (dB (dBin (fEq false) (dSl false (dV 0) (dNoPart) (dPart (dC (.int 1)))) (dC (.str ("-" : Str))))) (dAsg (dTup (dCons (dC (.int 1)) (dCons (dUn fNeg (dC (.int 1))) (dNil)))) (gTp 2 (gsCons (gNm 1) (gsCons (gNm 2) (gsNil))))) (dPass)) (dSeq (dSet 4 (dV 1)) (dSeq (whileP (bAnd (dB (dBin (fCmpI iLt) (dV 1) (dCB fLen (dCons (dV 0) (dNil))))) (dB (dBin (fInS false) (dBin fIx (dV 0) (dV 1)) (dV 3)))) (dSet 1 (dBin (fAdd false) (dV 1) (dC (.int 1)))) fuel) (dSeq (dIfS (dB (dBin (fEq false) (dV 1) (dV 4))) (dRet (dV 1)) (dPass)) (dSeq (dPar 5 6 (dCons (dSl false (dV 0) (dPart (dV 4)) (dPart (dV 1))) (dCons (dC (.int 0)) (dNil)))) (dSeq (dIfS (dB (dBin (fEq false) (dSl false (dV 0) (dPart (dV 1)) (dPart (dBin (fAdd false) (dV 1) (dC (.int 1))))) (dC (.str ("." : Str))))) (dSeq (dSet 7 (dBin (fAdd false) (dV 1) (dC (.int 1)))) (dSeq (dSet 1 (dV 7)) (dSeq (whileP (bAnd (dB (dBin (fCmpI iLt) (dV 1) (dCB fLen (dCons (dV 0) (dNil))))) (dB (dBin (fInS false) (dBin fIx (dV 0) (dV 1)) (dV 3)))) (dSet 1 (dBin (fAdd false) (dV 1) (dC (.int 1)))) fuel) (dSeq (dIfS (dB (dBin (fEq false) (dV 1) (dV 7))) (dRet (dV 1)) (dPass)) (dPar 5 6 (dCons (dBin (fAdd false) (dV 5) (dSl false (dV 0) (dPart (dV 7)) (dPart (dV 1)))) (dCons (dBin fSub (dV 7) (dV 1)) (dNil)))))))) (dPass)) (dSeq (dIfS (dB (dBin (fEq false) (dSl false (dV 0) (dPart (dV 1)) (dPart (dBin (fAdd false) (dV 1) (dC (.int 1))))) (dC (.str ("e" : Str))))) (dSeq (dPar 1 8 (dCons (dBin (fAdd false) (dV 1) (dC (.int 1))) (dCons (dC (.bl false)) (dNil)))) (dSeq (dIfS (dB (dBin (fEq false) (dSl false (dV 0) (dPart (dV 1)) (dPart (dBin (fAdd false) (dV 1) (dC (.int 1))))) (dC (.str ("-" : Str))))) (dPar 1 8 (dCons (dBin (fAdd false) (dV 1) (dC (.int 1))) (dCons (dC (.bl true)) (dNil)))) (dPass)) (dSeq (dSet 4 (dV 1)) (dSeq (whileP (bAnd (dB (dBin (fCmpI iLt) (dV 1) (dCB fLen (dCons (dV 0) (dNil))))) (dB (dBin (fInS false) (dBin fIx (dV 0) (dV 1)) (dV 3)))) (dSet 1 (dBin (fAdd false) (dV 1) (dC (.int 1)))) fuel) (dSeq (dIfS (bOr (dB (dBin (fEq false) (dV 1) (dV 4))) (dB (dBin (fCmpI iLt) (dV 1) (dCB fLen (dCons (dV 0) (dNil)))))) (dRet (dV 1)) (dPass)) (dSeq (dIfS (bOr (dB (dBin (fCmpI iGt) (dV 1) (dBin (fAdd false) (dV 4) (dC (.int 3))))) (dB (dBin (fCmpI iGt) (dCB fIntS (dCons (dSl false (dV 0) (dPart (dV 4)) (dPart (dV 1))) (dNil))) (dC (.int 140))))) (dRet (dV 4)) (dPass)) (dSet 6 (dBin (fAdd false) (dV 6) (dIf (dTru (dV 8)) (dBin fSub (dC (.int 0)) (dCB fIntS (dCons (dSl false (dV 0) (dPart (dV 4)) (dPart (dV 1))) (dNil)))) (dCB fIntS (dCons (dSl false (dV 0) (dPart (dV 4)) (dPart (dV 1))) (dNil)))))))))))) (dPass)) (dSeq (dIfS (dB (dBin (fCmpI iLt) (dV 1) (dCB fLen (dCons (dV 0) (dNil))))) (dRet (dV 1)) (dPass)) (dRet (dCB F_law_mul_L (dCons (dTup (dCons (dBin (fMul false) (dV 2) (dCB fIntS (dCons (dV 5) (dNil)))) (dCons (dC (.int 1)) (dNil)))) (dCons (dCB F_law_power_L (dCons (dC (.int 10)) (dCons (dV 6) (dNil)))) (dNil)))))))))))))))
def F_law_told_text_L : List PV → Sto → Res PV := runF 1 9 d_law_told_text_L
theorem sc_law_told_text_L : FnScope (["text", "at", "sign", "digits", "begin", "whole", "power", "dot", "is_below"] : List Str) (["text"] : List Str) (defScope s_law_told_text_L) := ⟨rfl, rfl, rfl, by decide +kernel, rfl, by decide +kernel, by decide +kernel⟩
theorem fc_law_told_text_L {Z : Wd} (B : Bi Z.mg) (hT : Z.T.lm = none) (h_law_mul_L : FC Z 2 "_law_mul" F_law_mul_L) (h_law_power_L : FC Z 1 "_law_power" F_law_power_L) (D : DefOk Z "_law_told_text" s_law_told_text_L) : FC Z 3 "_law_told_text" F_law_told_text_L := by
  have Sc := sc_law_told_text_L
  exact D.fc Sc (fun _ _ _ _ _ _ us hl => match us, hl with | [_], _ => rfl) fun f cdv A outer s H E C => by exact (css_cons (cs_if (ct_not (ct_tru (ce_callB (x := ("isinstance" : Str)) call_isi sl_isi rfl B.b_isinstance PyProof.Rows.boot_isinstance (ca_cons (ce_v 0) (ca_cons (ce_bty rfl B.b_str PyProof.Rows.boot_str) ca_nil))))) (css_one (cs_ret (ce_un un_neg sn_neg ce_int))) css_nil) (css_cons (cs_if (ct_cmp op_gt (sn_cmpI iGt) (ce_callB (x := ("len" : Str)) call_len sl_len rfl B.b_len (by decide +kernel) (ca_cons (ce_v 0) ca_nil)) ce_int rfl) (css_one (cs_ret ce_int)) css_nil) (css_cons (cs_asg (ce_tup (ca_cons ce_int (ca_cons ce_int (ca_cons ce_str ca_nil)))) (cg_tup C.calm (cgs_cons (fun _ _ _ _ _ h => h) (cg_name (i := 1) Sc.nd rfl (Or.inl rfl)) (cgs_cons (fun _ _ _ _ _ h => h) (cg_name (i := 2) Sc.nd rfl (Or.inl rfl)) (cgs_cons (fun _ _ _ _ _ h => h) (cg_name (i := 3) Sc.nd rfl (Or.inl rfl)) cgs_nil))))) (css_cons (cs_if (ct_cmp (op_eqD (u64 C.u)) sn_eq (ce_sl false (fun h => nomatch h) (ce_v 0) co_none (co_some ce_int)) ce_str rfl) (css_one (cs_asg (ce_tup (ca_cons ce_int (ca_cons (ce_un un_neg sn_neg ce_int) ca_nil))) (cg_tup C.calm (cgs_cons (fun _ _ _ _ _ h => h) (cg_name (i := 1) Sc.nd rfl (Or.inl rfl)) (cgs_cons (fun _ _ _ _ _ h => h) (cg_name (i := 2) Sc.nd rfl (Or.inl rfl)) cgs_nil))))) css_nil) (css_cons (cs_set (i := 4) Sc.nd rfl (Or.inl rfl) (ce_v 1)) (css_cons (cs_while fuel C.po (ct_w (cw_and (ct_cmp op_lt (sn_cmpI iLt) (ce_v 1) (ce_callB (x := ("len" : Str)) call_len sl_len rfl B.b_len (by decide +kernel) (ca_cons (ce_v 0) ca_nil)) rfl) (cw_and1 (ct_cmp op_in_str sn_inS (ce_ix (ce_v 0) (ce_v 1) (fun _ _ => rfl)) (ce_v 3) rfl)))) (css_one (cs_set (i := 1) Sc.nd rfl (Or.inl rfl) (ce_bin op_addM (sn_add false (fun h => nomatch h)) (ce_v 1) ce_int)))) (css_cons (cs_if (ct_cmp (op_eqD (u64 C.u)) sn_eq (ce_v 1) (ce_v 4) rfl) (css_one (cs_ret (ce_v 1))) css_nil) (css_cons (cs_par (i := 5) (j := 6) C.calm Sc.nd rfl rfl (by decide) rfl rfl (ca_cons (ce_sl false (fun h => nomatch h) (ce_v 0) (co_some (ce_v 4)) (co_some (ce_v 1))) (ca_cons ce_int ca_nil)) rfl) (css_cons (cs_if (ct_cmp (op_eqD (u64 C.u)) sn_eq (ce_sl false (fun h => nomatch h) (ce_v 0) (co_some (ce_v 1)) (co_some (ce_bin op_addM (sn_add false (fun h => nomatch h)) (ce_v 1) ce_int))) ce_str rfl) (css_cons (cs_set (i := 7) Sc.nd rfl (Or.inl rfl) (ce_bin op_addM (sn_add false (fun h => nomatch h)) (ce_v 1) ce_int)) (css_cons (cs_set (i := 1) Sc.nd rfl (Or.inl rfl) (ce_v 7)) (css_cons (cs_while fuel C.po (ct_w (cw_and (ct_cmp op_lt (sn_cmpI iLt) (ce_v 1) (ce_callB (x := ("len" : Str)) call_len sl_len rfl B.b_len (by decide +kernel) (ca_cons (ce_v 0) ca_nil)) rfl) (cw_and1 (ct_cmp op_in_str sn_inS (ce_ix (ce_v 0) (ce_v 1) (fun _ _ => rfl)) (ce_v 3) rfl)))) (css_one (cs_set (i := 1) Sc.nd rfl (Or.inl rfl) (ce_bin op_addM (sn_add false (fun h => nomatch h)) (ce_v 1) ce_int)))) (css_cons (cs_if (ct_cmp (op_eqD (u64 C.u)) sn_eq (ce_v 1) (ce_v 7) rfl) (css_one (cs_ret (ce_v 1))) css_nil) (css_one (cs_par (i := 5) (j := 6) C.calm Sc.nd rfl rfl (by decide) rfl rfl (ca_cons (ce_bin op_addM (sn_add false (fun h => nomatch h)) (ce_v 5) (ce_sl false (fun h => nomatch h) (ce_v 0) (co_some (ce_v 7)) (co_some (ce_v 1)))) (ca_cons (ce_bin op_sub sn_sub (ce_v 7) (ce_v 1)) ca_nil)) rfl)))))) css_nil) (css_cons (cs_if (ct_cmp (op_eqD (u64 C.u)) sn_eq (ce_sl false (fun h => nomatch h) (ce_v 0) (co_some (ce_v 1)) (co_some (ce_bin op_addM (sn_add false (fun h => nomatch h)) (ce_v 1) ce_int))) ce_str rfl) (css_cons (cs_par (i := 1) (j := 8) C.calm Sc.nd rfl rfl (by decide) rfl rfl (ca_cons (ce_bin op_addM (sn_add false (fun h => nomatch h)) (ce_v 1) ce_int) (ca_cons ce_bl ca_nil)) rfl) (css_cons (cs_if (ct_cmp (op_eqD (u64 C.u)) sn_eq (ce_sl false (fun h => nomatch h) (ce_v 0) (co_some (ce_v 1)) (co_some (ce_bin op_addM (sn_add false (fun h => nomatch h)) (ce_v 1) ce_int))) ce_str rfl) (css_one (cs_par (i := 1) (j := 8) C.calm Sc.nd rfl rfl (by decide) rfl rfl (ca_cons (ce_bin op_addM (sn_add false (fun h => nomatch h)) (ce_v 1) ce_int) (ca_cons ce_bl ca_nil)) rfl)) css_nil) (css_cons (cs_set (i := 4) Sc.nd rfl (Or.inl rfl) (ce_v 1)) (css_cons (cs_while fuel C.po (ct_w (cw_and (ct_cmp op_lt (sn_cmpI iLt) (ce_v 1) (ce_callB (x := ("len" : Str)) call_len sl_len rfl B.b_len (by decide +kernel) (ca_cons (ce_v 0) ca_nil)) rfl) (cw_and1 (ct_cmp op_in_str sn_inS (ce_ix (ce_v 0) (ce_v 1) (fun _ _ => rfl)) (ce_v 3) rfl)))) (css_one (cs_set (i := 1) Sc.nd rfl (Or.inl rfl) (ce_bin op_addM (sn_add false (fun h => nomatch h)) (ce_v 1) ce_int)))) (css_cons (cs_if (ct_w (cw_or (ct_cmp (op_eqD (u64 C.u)) sn_eq (ce_v 1) (ce_v 4) rfl) (cw_or1 (ct_cmp op_lt (sn_cmpI iLt) (ce_v 1) (ce_callB (x := ("len" : Str)) call_len sl_len rfl B.b_len (by decide +kernel) (ca_cons (ce_v 0) ca_nil)) rfl)))) (css_one (cs_ret (ce_v 1))) css_nil) (css_cons (cs_if (ct_w (cw_or (ct_cmp op_gt (sn_cmpI iGt) (ce_v 1) (ce_bin op_addM (sn_add false (fun h => nomatch h)) (ce_v 4) ce_int) rfl) (cw_or1 (ct_cmp op_gt (sn_cmpI iGt) (ce_callTy call_int_str sl_intS rfl B.b_int PyProof.Rows.boot_int (ca_cons (ce_sl false (fun h => nomatch h) (ce_v 0) (co_some (ce_v 4)) (co_some (ce_v 1))) ca_nil)) ce_int rfl)))) (css_one (cs_ret (ce_v 4))) css_nil) (css_one (cs_set (i := 6) Sc.nd rfl (Or.inl rfl) (ce_bin op_addM (sn_add false (fun h => nomatch h)) (ce_v 6) (ce_if (ct_tru (ce_v 8)) (ce_bin op_sub sn_sub ce_int (ce_callTy call_int_str sl_intS rfl B.b_int PyProof.Rows.boot_int (ca_cons (ce_sl false (fun h => nomatch h) (ce_v 0) (co_some (ce_v 4)) (co_some (ce_v 1))) ca_nil))) (ce_callTy call_int_str sl_intS rfl B.b_int PyProof.Rows.boot_int (ca_cons (ce_sl false (fun h => nomatch h) (ce_v 0) (co_some (ce_v 4)) (co_some (ce_v 1))) ca_nil)))))))))))) css_nil) (css_cons (cs_if (ct_cmp op_lt (sn_cmpI iLt) (ce_v 1) (ce_callB (x := ("len" : Str)) call_len sl_len rfl B.b_len (by decide +kernel) (ca_cons (ce_v 0) ca_nil)) rfl) (css_one (cs_ret (ce_v 1))) css_nil) (css_one (cs_ret (ce_call h_law_mul_L C (by decide) rfl (ca_cons (ce_tup (ca_cons (ce_bin op_mulM (sn_mul false (fun h => nomatch h)) (ce_v 2) (ce_callTy call_int_str sl_intS rfl B.b_int PyProof.Rows.boot_int (ca_cons (ce_v 5) ca_nil))) (ca_cons ce_int ca_nil))) (ca_cons (ce_call h_law_power_L C (by decide) rfl (ca_cons ce_int (ca_cons (ce_v 6) ca_nil))) ca_nil))))))))))))))))
/-! _law_figures -/
abbrev s_law_figures_L : Stmt := top 50
def d_law_figures_L : EnP → Sto → SR := dRet (dM1 fJoin (dC (.str ("" : Str))) (dLc false (iRange (dCons (dBin (fAdd false) (dC (.int 1)) (dCB F_law_draw_L (dCons (dV 0) (dCons (dV 1) (dNil))))) (dNil))) (cNm 2) (dYes) (dCB F_law_any_L (dCons (dV 0) (dCons (dCB fListS (dCons (dC (.str ("0123456789" : Str))) (dNil))) (dNil)))) [2]))
def F_law_figures_L : List PV → Sto → Res PV := runF 2 3 d_law_figures_L
theorem sc_law_figures_L : FnScope (["hand", "most", "at"] : List Str) (["hand", "most"] : List Str) (defScope s_law_figures_L) := ⟨rfl, rfl, rfl, by decide +kernel, rfl, by decide +kernel, by decide +kernel⟩
theorem fc_law_figures_L {Z : Wd} (B : Bi Z.mg) (hT : Z.T.lm = none) (h_law_draw_L : FC Z 1 "_law_draw" F_law_draw_L) (h_law_any_L : FC Z 2 "_law_any" F_law_any_L) (D : DefOk Z "_law_figures" s_law_figures_L) : FC Z 3 "_law_figures" F_law_figures_L := by
  have Sc := sc_law_figures_L
  exact D.fc Sc (fun _ _ _ _ _ _ us hl => match us, hl with | [_, _], _ => rfl) fun f cdv A outer s H E C => by exact (css_one (cs_ret (ce_join ce_str (ce_lcC false (fun h => nomatch h) C Sc.nd (ci_range1 rfl B.b_range (ca_cons (ce_bin op_addM (sn_add false (fun h => nomatch h)) ce_int (ce_call h_law_draw_L C (by decide) rfl (ca_cons (ce_v 0) (ca_cons (ce_v 1) ca_nil)))) ca_nil) rfl len1) (show BlkOk (["hand", "most", "at"] : List Str) (defScope s_law_figures_L) _ [(("at" : Str), 2)] from blkOk_by (by decide +kernel)) (fun _ _ _ _ _ C => (pg_name (i := 2) Sc.nd rfl (Or.inl rfl) (Or.inr rfl))) (tgc_name (by decide)) (fun _ _ _ _ _ _ => pts_yes) (fun _ _ _ _ _ C => (ce_call h_law_any_L C (by decide) rfl (ca_cons (ce_v 0) (ca_cons (ce_callTy (call_listS C.calm) sl_listS rfl B.b_list PyProof.Rows.boot_list (ca_cons ce_str ca_nil)) ca_nil))))))))
/-! _law_text -/
abbrev s_law_text_L : Stmt := top 51
def d_law_text_L : EnP → Sto → SR := dSeq (dSet 1 (dBin (fAdd false) (dCB F_law_any_L (dCons (dV 0) (dCons (dLst false (dCons (dC (.str ("" : Str))) (dCons (dC (.str ("" : Str))) (dCons (dC (.str ("-" : Str))) (dNil))))) (dNil)))) (dCB F_law_figures_L (dCons (dV 0) (dCons (dC (.int 5)) (dNil)))))) (dSeq (dIfS (dB (dBin (fEq false) (dCB F_law_draw_L (dCons (dV 0) (dCons (dC (.int 2)) (dNil)))) (dC (.int 0)))) (dSet 1 (dBin (fAdd false) (dBin (fAdd false) (dV 1) (dC (.str ("." : Str)))) (dCB F_law_figures_L (dCons (dV 0) (dCons (dC (.int 6)) (dNil)))))) (dPass)) (dSeq (dIfS (dB (dBin (fEq false) (dCB F_law_draw_L (dCons (dV 0) (dCons (dC (.int 2)) (dNil)))) (dC (.int 0)))) (dSet 1 (dBin (fAdd false) (dBin (fAdd false) (dBin (fAdd false) (dV 1) (dC (.str ("e" : Str)))) (dCB F_law_any_L (dCons (dV 0) (dCons (dLst false (dCons (dC (.str ("" : Str))) (dCons (dC (.str ("-" : Str))) (dNil)))) (dNil))))) (dCB F_law_any_L (dCons (dV 0) (dCons (dLst false (dCons (dC (.str ("0" : Str))) (dCons (dC (.str ("1" : Str))) (dCons (dC (.str ("3" : Str))) (dCons (dC (.str ("07" : Str))) (dCons (dC (.str ("12" : Str))) (dCons (dC (.str ("003" : Str))) (dNil)))))))) (dNil)))))) (dPass)) (dRet (dV 1))))
def F_law_text_L : List PV → Sto → Res PV := runF 1 2 d_law_text_L
theorem sc_law_text_L : FnScope (["hand", "text"] : List Str) (["hand"] : List Str) (defScope s_law_text_L) := ⟨rfl, rfl, rfl, by decide +kernel, rfl, by decide +kernel, by decide +kernel⟩
theorem fc_law_text_L {Z : Wd} (B : Bi Z.mg) (hT : Z.T.lm = none) (h_law_any_L : FC Z 2 "_law_any" F_law_any_L) (h_law_figures_L : FC Z 3 "_law_figures" F_law_figures_L) (h_law_draw_L : FC Z 1 "_law_draw" F_law_draw_L) (D : DefOk Z "_law_text" s_law_text_L) : FC Z 4 "_law_text" F_law_text_L := by
  have Sc := sc_law_text_L
  exact D.fc Sc (fun _ _ _ _ _ _ us hl => match us, hl with | [_], _ => rfl) fun f cdv A outer s H E C => by exact (css_cons (cs_set (i := 1) Sc.nd rfl (Or.inl rfl) (ce_bin op_addM (sn_add false (fun h => nomatch h)) (ce_call h_law_any_L C (by decide) rfl (ca_cons (ce_v 0) (ca_cons (ce_lst false (fun h => nomatch h) (ca_cons ce_str (ca_cons ce_str (ca_cons ce_str ca_nil)))) ca_nil))) (ce_call h_law_figures_L C (by decide) rfl (ca_cons (ce_v 0) (ca_cons ce_int ca_nil))))) (css_cons (cs_if (ct_cmp (op_eqD (u64 C.u)) sn_eq (ce_call h_law_draw_L C (by decide) rfl (ca_cons (ce_v 0) (ca_cons ce_int ca_nil))) ce_int rfl) (css_one (cs_set (i := 1) Sc.nd rfl (Or.inl rfl) (ce_bin op_addM (sn_add false (fun h => nomatch h)) (ce_bin op_addM (sn_add false (fun h => nomatch h)) (ce_v 1) ce_str) (ce_call h_law_figures_L C (by decide) rfl (ca_cons (ce_v 0) (ca_cons ce_int ca_nil)))))) css_nil) (css_cons (cs_if (ct_cmp (op_eqD (u64 C.u)) sn_eq (ce_call h_law_draw_L C (by decide) rfl (ca_cons (ce_v 0) (ca_cons ce_int ca_nil))) ce_int rfl) (css_one (cs_set (i := 1) Sc.nd rfl (Or.inl rfl) (ce_bin op_addM (sn_add false (fun h => nomatch h)) (ce_bin op_addM (sn_add false (fun h => nomatch h)) (ce_bin op_addM (sn_add false (fun h => nomatch h)) (ce_v 1) ce_str) (ce_call h_law_any_L C (by decide) rfl (ca_cons (ce_v 0) (ca_cons (ce_lst false (fun h => nomatch h) (ca_cons ce_str (ca_cons ce_str ca_nil))) ca_nil)))) (ce_call h_law_any_L C (by decide) rfl (ca_cons (ce_v 0) (ca_cons (ce_lst false (fun h => nomatch h) (ca_cons ce_str (ca_cons ce_str (ca_cons ce_str (ca_cons ce_str (ca_cons ce_str (ca_cons ce_str ca_nil))))))) ca_nil)))))) css_nil) (css_one (cs_ret (ce_v 1))))))
/-! _law_spoiled -/
abbrev s_law_spoiled_L : Stmt := top 52
def d_law_spoiled_L : EnP → Sto → SR := dSeq (dPar 2 3 (dCons (dCB F_law_draw_L (dCons (dV 0) (dCons (dCB fLen (dCons (dV 1) (dNil))) (dNil)))) (dCons (dCB F_law_any_L (dCons (dV 0) (dCons (dCB fListS (dCons (dC (.str ("0.e-+ 15,Ex/_" : Str))) (dNil))) (dNil)))) (dNil)))) (dSeq (dSet 4 (dLst false (dCons (dBin (fAdd false) (dBin (fAdd false) (dSl false (dV 1) (dNoPart) (dPart (dV 2))) (dV 3)) (dSl false (dV 1) (dPart (dBin (fAdd false) (dV 2) (dC (.int 1)))) (dNoPart))) (dCons (dBin (fAdd false) (dBin (fAdd false) (dSl false (dV 1) (dNoPart) (dPart (dV 2))) (dV 3)) (dSl false (dV 1) (dPart (dV 2)) (dNoPart))) (dCons (dBin (fAdd false) (dSl false (dV 1) (dNoPart) (dPart (dV 2))) (dSl false (dV 1) (dPart (dBin (fAdd false) (dV 2) (dC (.int 1)))) (dNoPart))) (dCons (dBin (fAdd false) (dV 1) (dV 3)) (dNil))))))) (dRet (dCB F_law_any_L (dCons (dV 0) (dCons (dBin (fAdd false) (dV 4) (dLst false (dCons (dBin (fAdd false) (dV 3) (dV 1)) (dCons (dBin (fAdd false) (dV 1) (dC (.str ("e5" : Str)))) (dCons (dBin (fAdd false) (dV 1) (dC (.str (".5" : Str)))) (dCons (dBin (fAdd false) (dC (.str ("-" : Str))) (dV 1)) (dNil))))))) (dNil))))))
def F_law_spoiled_L : List PV → Sto → Res PV := runF 2 5 d_law_spoiled_L
theorem sc_law_spoiled_L : FnScope (["hand", "text", "at", "sign", "some"] : List Str) (["hand", "text"] : List Str) (defScope s_law_spoiled_L) := ⟨rfl, rfl, rfl, by decide +kernel, rfl, by decide +kernel, by decide +kernel⟩
theorem fc_law_spoiled_L {Z : Wd} (B : Bi Z.mg) (hT : Z.T.lm = none) (h_law_draw_L : FC Z 1 "_law_draw" F_law_draw_L) (h_law_any_L : FC Z 2 "_law_any" F_law_any_L) (D : DefOk Z "_law_spoiled" s_law_spoiled_L) : FC Z 3 "_law_spoiled" F_law_spoiled_L := by
  have Sc := sc_law_spoiled_L
  exact D.fc Sc (fun _ _ _ _ _ _ us hl => match us, hl with | [_, _], _ => rfl) fun f cdv A outer s H E C => by exact (css_cons (cs_par (i := 2) (j := 3) C.calm Sc.nd rfl rfl (by decide) rfl rfl (ca_cons (ce_call h_law_draw_L C (by decide) rfl (ca_cons (ce_v 0) (ca_cons (ce_callB (x := ("len" : Str)) call_len sl_len rfl B.b_len (by decide +kernel) (ca_cons (ce_v 1) ca_nil)) ca_nil))) (ca_cons (ce_call h_law_any_L C (by decide) rfl (ca_cons (ce_v 0) (ca_cons (ce_callTy (call_listS C.calm) sl_listS rfl B.b_list PyProof.Rows.boot_list (ca_cons ce_str ca_nil)) ca_nil))) ca_nil)) rfl) (css_cons (cs_set (i := 4) Sc.nd rfl (Or.inl rfl) (ce_lst false (fun h => nomatch h) (ca_cons (ce_bin op_addM (sn_add false (fun h => nomatch h)) (ce_bin op_addM (sn_add false (fun h => nomatch h)) (ce_sl false (fun h => nomatch h) (ce_v 1) co_none (co_some (ce_v 2))) (ce_v 3)) (ce_sl false (fun h => nomatch h) (ce_v 1) (co_some (ce_bin op_addM (sn_add false (fun h => nomatch h)) (ce_v 2) ce_int)) co_none)) (ca_cons (ce_bin op_addM (sn_add false (fun h => nomatch h)) (ce_bin op_addM (sn_add false (fun h => nomatch h)) (ce_sl false (fun h => nomatch h) (ce_v 1) co_none (co_some (ce_v 2))) (ce_v 3)) (ce_sl false (fun h => nomatch h) (ce_v 1) (co_some (ce_v 2)) co_none)) (ca_cons (ce_bin op_addM (sn_add false (fun h => nomatch h)) (ce_sl false (fun h => nomatch h) (ce_v 1) co_none (co_some (ce_v 2))) (ce_sl false (fun h => nomatch h) (ce_v 1) (co_some (ce_bin op_addM (sn_add false (fun h => nomatch h)) (ce_v 2) ce_int)) co_none)) (ca_cons (ce_bin op_addM (sn_add false (fun h => nomatch h)) (ce_v 1) (ce_v 3)) ca_nil)))))) (css_one (cs_ret (ce_call h_law_any_L C (by decide) rfl (ca_cons (ce_v 0) (ca_cons (ce_bin op_addM (sn_add false (fun h => nomatch h)) (ce_v 4) (ce_lst false (fun h => nomatch h) (ca_cons (ce_bin op_addM (sn_add false (fun h => nomatch h)) (ce_v 3) (ce_v 1)) (ca_cons (ce_bin op_addM (sn_add false (fun h => nomatch h)) (ce_v 1) ce_str) (ca_cons (ce_bin op_addM (sn_add false (fun h => nomatch h)) (ce_v 1) ce_str) (ca_cons (ce_bin op_addM (sn_add false (fun h => nomatch h)) ce_str (ce_v 1)) ca_nil)))))) ca_nil)))))))
/-! _law_summed -/
abbrev s_law_summed_L : Stmt := top 53
def d_law_summed_L : EnP → Sto → SR := dSeq (dPar3 1 2 3 (dCons (dTup (dCons (dC (.int 0)) (dCons (dC (.int 1)) (dNil)))) (dCons (dC .non) (dCons (dBin (fEq false) (dSl false (dV 0) (dNoPart) (dPart (dC (.int 1)))) (dC (.str ("-" : Str)))) (dNil))))) (dSeq (dPar 4 5 (dCons (dBin fIx (dM1 fSplit (dV 0) (dC (.str ("e" : Str)))) (dC (.int 0))) (dCons (dIf (dB (dBin (fInS false) (dC (.str ("e" : Str))) (dV 0))) (dBin fIx (dM1 fSplit (dV 0) (dC (.str ("e" : Str)))) (dC (.int 1))) (dC (.str ("0" : Str)))) (dNil)))) (dSeq (dFor (iSeq (dV 4)) (gNm 6) (dIfS (dB (dBin (fEq false) (dV 6) (dC (.str ("." : Str))))) (dSet 2 (dTup (dCons (dC (.int 1)) (dCons (dC (.int 1)) (dNil))))) (dIfS (dB (dBin (fEq true) (dV 6) (dC (.str ("-" : Str))))) (dIfS (dB (dBin (fIsN false) (dV 2) (dC .non))) (dSet 1 (dCB F_plus (dCons (dCB F_times (dCons (dV 1) (dCons (dTup (dCons (dC (.int 10)) (dCons (dC (.int 1)) (dNil)))) (dNil)))) (dCons (dTup (dCons (dCB fIntS (dCons (dV 6) (dNil))) (dCons (dC (.int 1)) (dNil)))) (dNil))))) (dSeq (dSet 2 (dCB F_by (dCons (dV 2) (dCons (dTup (dCons (dC (.int 10)) (dCons (dC (.int 1)) (dNil)))) (dNil))))) (dSet 1 (dCB F_plus (dCons (dV 1) (dCons (dCB F_times (dCons (dV 2) (dCons (dTup (dCons (dCB fIntS (dCons (dV 6) (dNil))) (dCons (dC (.int 1)) (dNil)))) (dNil)))) (dNil))))))) (dPass)))) (dSeq (dFor (iRange (dCons (dCB fAbs (dCons (dCB fIntS (dCons (dV 5) (dNil))) (dNil))) (dNil))) (gNm 7) (dSet 1 (dIf (dB (dBin (fCmpI iGt) (dCB fIntS (dCons (dV 5) (dNil))) (dC (.int 0)))) (dCB F_times (dCons (dV 1) (dCons (dTup (dCons (dC (.int 10)) (dCons (dC (.int 1)) (dNil)))) (dNil)))) (dCB F_by (dCons (dV 1) (dCons (dTup (dCons (dC (.int 10)) (dCons (dC (.int 1)) (dNil)))) (dNil))))))) (dRet (dIf (dTru (dV 3)) (dCB F_less (dCons (dTup (dCons (dC (.int 0)) (dCons (dC (.int 1)) (dNil)))) (dCons (dV 1) (dNil)))) (dV 1))))))
def F_law_summed_L : List PV → Sto → Res PV := runF 1 8 d_law_summed_L
theorem sc_law_summed_L : FnScope (["text", "total", "point", "sign", "head", "power", "figure", "turn"] : List Str) (["text"] : List Str) (defScope s_law_summed_L) := ⟨rfl, rfl, rfl, by decide +kernel, rfl, by decide +kernel, by decide +kernel⟩
theorem fc_law_summed_L {Z : Wd} (B : Bi Z.mg) (hT : Z.T.lm = none) (h_plus : FC Z 5 "plus" F_plus) (h_times : FC Z 5 "times" F_times) (h_by : FC Z 5 "by" F_by) (h_less : FC Z 5 "less" F_less) (D : DefOk Z "_law_summed" s_law_summed_L) : FC Z 6 "_law_summed" F_law_summed_L := by
  have Sc := sc_law_summed_L
  exact D.fc Sc (fun _ _ _ _ _ _ us hl => match us, hl with | [_], _ => rfl) fun f cdv A outer s H E C => by exact (css_cons (cs_par3 (i := 1) (j := 2) (l := 3) C.calm Sc.nd rfl rfl rfl (by decide) (by decide) (by decide) rfl rfl rfl (ca_cons (ce_tup (ca_cons ce_int (ca_cons ce_int ca_nil))) (ca_cons ce_non (ca_cons (ce_cmp (op_eqD (u64 C.u)) sn_eq (ce_sl false (fun h => nomatch h) (ce_v 0) co_none (co_some ce_int)) ce_str rfl) ca_nil))) rfl) (css_cons (cs_par (i := 4) (j := 5) C.calm Sc.nd rfl rfl (by decide) rfl rfl (ca_cons (ce_ix (ce_split (ce_v 0) ce_str) ce_int (fun _ _ => rfl)) (ca_cons (ce_if (ct_cmp op_in_str sn_inS ce_str (ce_v 0) rfl) (ce_ix (ce_split (ce_v 0) ce_str) ce_int (fun _ _ => rfl)) ce_str) ca_nil)) rfl) (css_cons (cs_for C.po C.calm (ci_seq (ce_v 4)) (cg_name (i := 6) Sc.nd rfl (Or.inl rfl)) (css_one (cs_if (ct_cmp (op_eqD (u64 C.u)) sn_eq (ce_v 6) ce_str rfl) (css_one (cs_set (i := 2) Sc.nd rfl (Or.inl rfl) (ce_tup (ca_cons ce_int (ca_cons ce_int ca_nil))))) (css_one (cs_if (ct_cmp (op_neD (u64 C.u)) sn_ne (ce_v 6) ce_str rfl) (css_one (cs_if (ct_cmp op_isN sn_isN (ce_v 2) ce_non rfl) (css_one (cs_set (i := 1) Sc.nd rfl (Or.inl rfl) (ce_call h_plus C (by decide) rfl (ca_cons (ce_call h_times C (by decide) rfl (ca_cons (ce_v 1) (ca_cons (ce_tup (ca_cons ce_int (ca_cons ce_int ca_nil))) ca_nil))) (ca_cons (ce_tup (ca_cons (ce_callTy call_int_str sl_intS rfl B.b_int PyProof.Rows.boot_int (ca_cons (ce_v 6) ca_nil)) (ca_cons ce_int ca_nil))) ca_nil))))) (css_cons (cs_set (i := 2) Sc.nd rfl (Or.inl rfl) (ce_call h_by C (by decide) rfl (ca_cons (ce_v 2) (ca_cons (ce_tup (ca_cons ce_int (ca_cons ce_int ca_nil))) ca_nil)))) (css_one (cs_set (i := 1) Sc.nd rfl (Or.inl rfl) (ce_call h_plus C (by decide) rfl (ca_cons (ce_v 1) (ca_cons (ce_call h_times C (by decide) rfl (ca_cons (ce_v 2) (ca_cons (ce_tup (ca_cons (ce_callTy call_int_str sl_intS rfl B.b_int PyProof.Rows.boot_int (ca_cons (ce_v 6) ca_nil)) (ca_cons ce_int ca_nil))) ca_nil))) ca_nil)))))))) css_nil))))) (css_cons (cs_for C.po C.calm (ci_range1 rfl B.b_range (ca_cons (ce_callB (x := ("abs" : Str)) call_abs sl_abs rfl B.b_abs PyProof.Rows.boot_abs (ca_cons (ce_callTy call_int_str sl_intS rfl B.b_int PyProof.Rows.boot_int (ca_cons (ce_v 5) ca_nil)) ca_nil)) ca_nil) rfl len1) (cg_name (i := 7) Sc.nd rfl (Or.inl rfl)) (css_one (cs_set (i := 1) Sc.nd rfl (Or.inl rfl) (ce_if (ct_cmp op_gt (sn_cmpI iGt) (ce_callTy call_int_str sl_intS rfl B.b_int PyProof.Rows.boot_int (ca_cons (ce_v 5) ca_nil)) ce_int rfl) (ce_call h_times C (by decide) rfl (ca_cons (ce_v 1) (ca_cons (ce_tup (ca_cons ce_int (ca_cons ce_int ca_nil))) ca_nil))) (ce_call h_by C (by decide) rfl (ca_cons (ce_v 1) (ca_cons (ce_tup (ca_cons ce_int (ca_cons ce_int ca_nil))) ca_nil))))))) (css_one (cs_ret (ce_if (ct_tru (ce_v 3)) (ce_call h_less C (by decide) rfl (ca_cons (ce_tup (ca_cons ce_int (ca_cons ce_int ca_nil))) (ca_cons (ce_v 1) ca_nil))) (ce_v 1))))))))
/-! law -/
abbrev s_law : Stmt := top 54
def d_law : EnP → Sto → SR := dSeq (dSet 1 (dCB F_law_hand_L (dCons (dV 0) (dNil)))) (dSeq (dIfS (bNot (dTru (dCB F_law_is_L (dCons (dLst false (dCons (dCB F_read_exact (dCons (dC (.str ("-1.50e1" : Str))) (dNil))) (dCons (dCB F_read_exact (dCons (dC (.str ("0.125" : Str))) (dNil))) (dCons (dCB F_read_exact (dCons (dC (.str ("7e-2" : Str))) (dNil))) (dNil))))) (dCons (dLst false (dCons (dTup (dCons (dUn fNeg (dC (.int 15))) (dCons (dC (.int 1)) (dNil)))) (dCons (dTup (dCons (dC (.int 1)) (dCons (dC (.int 8)) (dNil)))) (dCons (dTup (dCons (dC (.int 7)) (dCons (dC (.int 100)) (dNil)))) (dNil))))) (dNil)))))) (dRet (dC (.bl false))) (dPass)) (dSeq (dFor (iRange (dCons (dC (.int 8)) (dNil))) (gNm 2) (dSeq (dSet 3 (dCB F_law_text_L (dCons (dV 1) (dNil)))) (dSeq (dSet 4 (dCB F_law_told_text_L (dCons (dV 3) (dNil)))) (dSeq (dSet 5 (dCB F_read_exact (dCons (dV 3) (dNil)))) (dSeq (dIfS (bOr (dB (dBin (fEq true) (dV 5) (dV 4))) (bOr (dB (dBin (fIs true) (dCB F_is_fraction (dCons (dV 5) (dNil))) (dC (.bl true)))) (dB (dBin (fEq true) (dCB F_law_summed_L (dCons (dV 3) (dNil))) (dV 5))))) (dRet (dC (.bl false))) (dPass)) (dSeq (dIfS (dB (dBin (fEq true) (dCB F_read_exact (dCons (dIf (dB (dBin (fEq true) (dSl false (dV 3) (dNoPart) (dPart (dC (.int 1)))) (dC (.str ("-" : Str))))) (dBin (fAdd false) (dC (.str ("00" : Str))) (dV 3)) (dBin (fAdd false) (dC (.str ("-00" : Str))) (dSl false (dV 3) (dPart (dC (.int 1))) (dNoPart)))) (dNil))) (dV 5))) (dRet (dC (.bl false))) (dPass)) (dSeq (dIfS (bOr (dB (dBin (fEq true) (dCB F_floor_of (dCons (dV 5) (dNil))) (dBin fDiv (dBin fIx (dV 5) (dC (.int 0))) (dBin fIx (dV 5) (dC (.int 1)))))) (dB (dBin (fEq true) (dCB F_fraction (dCons (dBin (fMul false) (dBin fIx (dV 5) (dC (.int 0))) (dC (.int 6))) (dCons (dBin (fMul false) (dBin fIx (dV 5) (dC (.int 1))) (dC (.int 6))) (dNil)))) (dV 5)))) (dRet (dC (.bl false))) (dPass)) (dSeq (dSet 6 (dCB F_law_spoiled_L (dCons (dV 1) (dCons (dV 3) (dNil))))) (dSeq (dSet 4 (dCB F_law_told_text_L (dCons (dV 6) (dNil)))) (dSeq (dSet 7 (fun ρ S => G_law_place_L (fun S => (dCB F_read_exact (dCons (dV 6) (dNil))) ρ S) S)) (dIfS (dTru (dCB fIsi (dCons (dV 4) (dCons (dC (.ty "tuple")) (dNil))))) (dIfS (bOr (dB (dBin (fIsN true) (dV 7) (dC .non))) (dB (dBin (fEq true) (dCB F_read_exact (dCons (dV 6) (dNil))) (dV 4)))) (dRet (dC (.bl false))) (dPass)) (dIfS (dB (dBin (fEq true) (dV 7) (dV 4))) (dRet (dC (.bl false))) (dPass))))))))))))) (dSeq (dSet 8 (dCB F_law_any_L (dCons (dV 1) (dCons (dLst false (dCons (dC .non) (dCons (dC (.int 5)) (dCons (dTup (dNil)) (dCons (dLst false (dCons (dC (.str ("1" : Str))) (dNil))) (dCons (dDict0) (dNil))))))) (dNil))))) (dSeq (dSet 9 (dBin fMulS (dC (.str ("1" : Str))) (dBin (fAdd false) (dC (.int 301)) (dCB F_law_draw_L (dCons (dV 1) (dCons (dC (.int 9)) (dNil))))))) (dSeq (dSet 5 (dLst true (dCons (fun ρ S => G_law_place_L (fun S => (dCB F_read_exact (dCons (dV 8) (dNil))) ρ S) S) (dNil)))) (dSeq (dExpr (dApp (dV 5) (dCons (fun ρ S => G_law_place_L (fun S => (dCB F_read_exact (dCons (dV 9) (dNil))) ρ S) S) (dNil)))) (dSeq (dSet 10 (dBin (fAdd false) (dBin (fAdd false) (dBin fMulS (dC (.str ("1" : Str))) (dBin (fAdd false) (dC (.int 170)) (dCB F_law_draw_L (dCons (dV 1) (dCons (dC (.int 60)) (dNil)))))) (dC (.str ("e" : Str)))) (dCB fStrI (dCons (dBin (fAdd false) (dC (.int 135)) (dCB F_law_draw_L (dCons (dV 1) (dCons (dC (.int 6)) (dNil))))) (dNil))))) (dSeq (dExpr (dApp (dV 5) (dCons (fun ρ S => G_law_place_L (fun S => (dCB F_read_exact (dCons (dV 10) (dNil))) ρ S) S) (dNil)))) (dSeq (dExpr (dApp (dV 5) (dCons (fun ρ S => G_law_place_L (fun S => (dCB F_read_exact (dCons (dBin (fAdd false) (dC (.str ("3e" : Str))) (dCB fStrI (dCons (dBin (fAdd false) (dC (.int 141)) (dCB F_law_draw_L (dCons (dV 1) (dCons (dC (.int 800)) (dNil))))) (dNil)))) (dNil))) ρ S) S) (dNil)))) (dRet (dBin (fEq false) (dV 5) (dLst false (dCons (dUn fNeg (dC (.int 1))) (dCons (dC (.int 300)) (dCons (dC (.str ("fraction" : Str))) (dCons (dC (.int 2)) (dNil)))))))))))))))))
def F_law : List PV → Sto → Res PV := runF 1 11 d_law
theorem sc_law : FnScope (["script", "hand", "turn", "text", "due", "told", "bad", "place", "odd", "long", "great"] : List Str) (["script"] : List Str) (defScope s_law) := ⟨rfl, rfl, rfl, by decide +kernel, rfl, by decide +kernel, by decide +kernel⟩
theorem fc_law {Z : Wd} (B : Bi Z.mg) (hT : Z.T.lm = none) (h_law_hand_L : FC Z 1 "_law_hand" F_law_hand_L) (h_law_is_L : FC Z 7 "_law_is" F_law_is_L) (h_read_exact : FC Z 5 "read_exact" F_read_exact) (h_law_text_L : FC Z 4 "_law_text" F_law_text_L) (h_law_told_text_L : FC Z 3 "_law_told_text" F_law_told_text_L) (h_is_fraction : FC Z 2 "is_fraction" F_is_fraction) (h_law_summed_L : FC Z 6 "_law_summed" F_law_summed_L) (h_floor_of : FC Z 4 "floor_of" F_floor_of) (h_fraction : FC Z 3 "fraction" F_fraction) (h_law_spoiled_L : FC Z 3 "_law_spoiled" F_law_spoiled_L) (h_law_any_L : FC Z 2 "_law_any" F_law_any_L) (h_law_draw_L : FC Z 1 "_law_draw" F_law_draw_L) (g_law_place_L : FL Z 0 "_law_place" G_law_place_L) {cA cP : Addr} (hTB : LamX.TabB Z.base Z.mg cA cP) (hMem : (cP, ("law.<locals>.<lambda>" : Str)) ∈ Z.T.tabs) (hU : ∀ p ∈ Z.T.tabs, p.1 = cP → p.2 = ("law.<locals>.<lambda>" : Str)) (D : DefOkC Z "law" s_law cA) : FC Z 23 "law" F_law := by
  have Sc := sc_law
  exact D.fc Sc (fun _ _ _ _ _ _ us hl => match us, hl with | [_], _ => rfl) fun f A outer s H E C => by exact (css_cons (cs_set (i := 1) Sc.nd rfl (Or.inr rfl) (ce_call h_law_hand_L C (by decide) rfl (ca_cons (ce_v 0) ca_nil))) (css_cons (cs_if (ct_not (ct_tru (ce_call h_law_is_L C (by decide) rfl (ca_cons (ce_lst false (fun h => nomatch h) (ca_cons (ce_call h_read_exact C (by decide) rfl (ca_cons ce_str ca_nil)) (ca_cons (ce_call h_read_exact C (by decide) rfl (ca_cons ce_str ca_nil)) (ca_cons (ce_call h_read_exact C (by decide) rfl (ca_cons ce_str ca_nil)) ca_nil)))) (ca_cons (ce_lst false (fun h => nomatch h) (ca_cons (ce_tup (ca_cons (ce_un un_neg sn_neg ce_int) (ca_cons ce_int ca_nil))) (ca_cons (ce_tup (ca_cons ce_int (ca_cons ce_int ca_nil))) (ca_cons (ce_tup (ca_cons ce_int (ca_cons ce_int ca_nil))) ca_nil)))) ca_nil))))) (css_one (cs_ret ce_bl)) css_nil) (css_cons (cs_for C.po C.calm (ci_range1 rfl B.b_range (ca_cons ce_int ca_nil) rfl len1) (cg_name (i := 2) Sc.nd rfl (Or.inl rfl)) (css_cons (cs_set (i := 3) Sc.nd rfl (Or.inl rfl) (ce_call h_law_text_L C (by decide) rfl (ca_cons (ce_v 1) ca_nil))) (css_cons (cs_set (i := 4) Sc.nd rfl (Or.inl rfl) (ce_call h_law_told_text_L C (by decide) rfl (ca_cons (ce_v 3) ca_nil))) (css_cons (cs_set (i := 5) Sc.nd rfl (Or.inl rfl) (ce_call h_read_exact C (by decide) rfl (ca_cons (ce_v 3) ca_nil))) (css_cons (cs_if (ct_w (cw_or (ct_cmp (op_neD (u64 C.u)) sn_ne (ce_v 5) (ce_v 4) rfl) (cw_or (ct_cmp op_notA sn_notB (ce_call h_is_fraction C (by decide) rfl (ca_cons (ce_v 5) ca_nil)) ce_bl rfl) (cw_or1 (ct_cmp (op_neD (u64 C.u)) sn_ne (ce_call h_law_summed_L C (by decide) rfl (ca_cons (ce_v 3) ca_nil)) (ce_v 5) rfl))))) (css_one (cs_ret ce_bl)) css_nil) (css_cons (cs_if (ct_cmp (op_neD (u64 C.u)) sn_ne (ce_call h_read_exact C (by decide) rfl (ca_cons (ce_if (ct_cmp (op_neD (u64 C.u)) sn_ne (ce_sl false (fun h => nomatch h) (ce_v 3) co_none (co_some ce_int)) ce_str rfl) (ce_bin op_addM (sn_add false (fun h => nomatch h)) ce_str (ce_v 3)) (ce_bin op_addM (sn_add false (fun h => nomatch h)) ce_str (ce_sl false (fun h => nomatch h) (ce_v 3) (co_some ce_int) co_none))) ca_nil)) (ce_v 5) rfl) (css_one (cs_ret ce_bl)) css_nil) (css_cons (cs_if (ct_w (cw_or (ct_cmp (op_neD (u64 C.u)) sn_ne (ce_call h_floor_of C (by decide) rfl (ca_cons (ce_v 5) ca_nil)) (ce_bin op_fdivA sn_div (ce_ix (ce_v 5) ce_int (fun _ _ => rfl)) (ce_ix (ce_v 5) ce_int (fun _ _ => rfl))) rfl) (cw_or1 (ct_cmp (op_neD (u64 C.u)) sn_ne (ce_call h_fraction C (by decide) rfl (ca_cons (ce_bin op_mulM (sn_mul false (fun h => nomatch h)) (ce_ix (ce_v 5) ce_int (fun _ _ => rfl)) ce_int) (ca_cons (ce_bin op_mulM (sn_mul false (fun h => nomatch h)) (ce_ix (ce_v 5) ce_int (fun _ _ => rfl)) ce_int) ca_nil))) (ce_v 5) rfl)))) (css_one (cs_ret ce_bl)) css_nil) (css_cons (cs_set (i := 6) Sc.nd rfl (Or.inr rfl) (ce_call h_law_spoiled_L C (by decide) rfl (ca_cons (ce_v 1) (ca_cons (ce_v 3) ca_nil)))) (css_cons (cs_set (i := 4) Sc.nd rfl (Or.inl rfl) (ce_call h_law_told_text_L C (by decide) rfl (ca_cons (ce_v 6) ca_nil))) (css_cons (cs_set (i := 7) Sc.nd rfl (Or.inl rfl) (ce_lam (kl := 20) g_law_place_L C (by decide) (by decide) hT rfl hTB rfl hMem hU (show LamX.LamS (defScope s_law) _ from LamX.lamS_by (by decide +kernel)) rfl (fun _ _ _ _ _ => rfl) (fun A1 outer1 s1 H1 E1 f1 c1 hr1 hg1 => have C := ctx_lam hr1 hg1; (ce_call h_read_exact C (by decide) rfl (ca_cons (ce_v 6) ca_nil))))) (css_one (cs_if (ct_tru (ce_callB (x := ("isinstance" : Str)) call_isi sl_isi rfl B.b_isinstance PyProof.Rows.boot_isinstance (ca_cons (ce_v 4) (ca_cons (ce_bty rfl B.b_tuple PyProof.Rows.boot_tuple) ca_nil)))) (css_one (cs_if (ct_w (cw_or (ct_cmp op_notN sn_notN (ce_v 7) ce_non rfl) (cw_or1 (ct_cmp (op_neD (u64 C.u)) sn_ne (ce_call h_read_exact C (by decide) rfl (ca_cons (ce_v 6) ca_nil)) (ce_v 4) rfl)))) (css_one (cs_ret ce_bl)) css_nil)) (css_one (cs_if (ct_cmp (op_neD (u64 C.u)) sn_ne (ce_v 7) (ce_v 4) rfl) (css_one (cs_ret ce_bl)) css_nil)))))))))))))) (css_cons (cs_set (i := 8) Sc.nd rfl (Or.inr rfl) (ce_call h_law_any_L C (by decide) rfl (ca_cons (ce_v 1) (ca_cons (ce_lst false (fun h => nomatch h) (ca_cons ce_non (ca_cons ce_int (ca_cons (ce_tup ca_nil) (ca_cons (ce_lst false (fun h => nomatch h) (ca_cons ce_str ca_nil)) (ca_cons ce_dict0 ca_nil)))))) ca_nil)))) (css_cons (cs_set (i := 9) Sc.nd rfl (Or.inr rfl) (ce_bin op_mulS sn_mulS ce_str (ce_bin op_addM (sn_add false (fun h => nomatch h)) ce_int (ce_call h_law_draw_L C (by decide) rfl (ca_cons (ce_v 1) (ca_cons ce_int ca_nil)))))) (css_cons (cs_set (i := 5) Sc.nd rfl (Or.inl rfl) (ce_lst true (fun _ => gm_bare C.room.hd hT) (ca_cons (ce_lam (kl := 20) g_law_place_L C (by decide) (by decide) hT rfl hTB rfl hMem hU (show LamX.LamS (defScope s_law) _ from LamX.lamS_by (by decide +kernel)) rfl (fun _ _ _ _ _ => rfl) (fun A1 outer1 s1 H1 E1 f1 c1 hr1 hg1 => have C := ctx_lam hr1 hg1; (ce_call h_read_exact C (by decide) rfl (ca_cons (ce_v 8) ca_nil)))) ca_nil))) (css_cons (cs_expr (ce_app (gm_bare C.room.hd hT) (ce_v 5) (ca_cons (ce_lam (kl := 20) g_law_place_L C (by decide) (by decide) hT rfl hTB rfl hMem hU (show LamX.LamS (defScope s_law) _ from LamX.lamS_by (by decide +kernel)) rfl (fun _ _ _ _ _ => rfl) (fun A1 outer1 s1 H1 E1 f1 c1 hr1 hg1 => have C := ctx_lam hr1 hg1; (ce_call h_read_exact C (by decide) rfl (ca_cons (ce_v 9) ca_nil)))) ca_nil))) (css_cons (cs_set (i := 10) Sc.nd rfl (Or.inr rfl) (ce_bin op_addM (sn_add false (fun h => nomatch h)) (ce_bin op_addM (sn_add false (fun h => nomatch h)) (ce_bin op_mulS sn_mulS ce_str (ce_bin op_addM (sn_add false (fun h => nomatch h)) ce_int (ce_call h_law_draw_L C (by decide) rfl (ca_cons (ce_v 1) (ca_cons ce_int ca_nil))))) ce_str) (ce_callTy call_str_int sl_strI rfl B.b_str PyProof.Rows.boot_str (ca_cons (ce_bin op_addM (sn_add false (fun h => nomatch h)) ce_int (ce_call h_law_draw_L C (by decide) rfl (ca_cons (ce_v 1) (ca_cons ce_int ca_nil)))) ca_nil)))) (css_cons (cs_expr (ce_app (gm_bare C.room.hd hT) (ce_v 5) (ca_cons (ce_lam (kl := 20) g_law_place_L C (by decide) (by decide) hT rfl hTB rfl hMem hU (show LamX.LamS (defScope s_law) _ from LamX.lamS_by (by decide +kernel)) rfl (fun _ _ _ _ _ => rfl) (fun A1 outer1 s1 H1 E1 f1 c1 hr1 hg1 => have C := ctx_lam hr1 hg1; (ce_call h_read_exact C (by decide) rfl (ca_cons (ce_v 10) ca_nil)))) ca_nil))) (css_cons (cs_expr (ce_app (gm_bare C.room.hd hT) (ce_v 5) (ca_cons (ce_lam (kl := 20) g_law_place_L C (by decide) (by decide) hT rfl hTB rfl hMem hU (show LamX.LamS (defScope s_law) _ from LamX.lamS_by (by decide +kernel)) rfl (fun _ _ _ _ _ => rfl) (fun A1 outer1 s1 H1 E1 f1 c1 hr1 hg1 => have C := ctx_lam hr1 hg1; (ce_call h_read_exact C (by decide) rfl (ca_cons (ce_bin op_addM (sn_add false (fun h => nomatch h)) ce_str (ce_callTy call_str_int sl_strI rfl B.b_str PyProof.Rows.boot_str (ca_cons (ce_bin op_addM (sn_add false (fun h => nomatch h)) ce_int (ce_call h_law_draw_L C (by decide) rfl (ca_cons (ce_v 1) (ca_cons ce_int ca_nil)))) ca_nil))) ca_nil)))) ca_nil))) (css_one (cs_ret (ce_cmp (op_eqD (u64 C.u)) sn_eq (ce_v 5) (ce_lst false (fun h => nomatch h) (ca_cons (ce_un un_neg sn_neg ce_int) (ca_cons ce_int (ca_cons ce_str (ca_cons ce_int ca_nil))))) rfl)))))))))))))
end G58
end
section
set_option Elab.async false
set_option linter.all false
set_option maxRecDepth 100000
set_option maxHeartbeats 4000000
namespace G58
open PySem PySem.Spec PyProof.Rows L2 Mi Ra

/-! ### fractions -/
theorem gcd_loop (n : Nat) : ∀ (a b : Nat) (S : Sto), b < n → whileP (dB (dBin (fCmpI iGt) (dV 1) (dC (.int 0)))) (dPar 0 1 (dCons (dV 1) (dCons (dBin fMod (dV 0) (dV 1)) (dNil)))) n [some (.int a), some (.int b)] S = .nx [some (.int (Nat.gcd a b)), some (.int 0)] S := by
  induction n with
  | zero => intro a b S h; omega
  | succ n ih =>
    intro a b S h
    rw [whileP]
    by_cases hb : b = 0
    · subst hb
      simp [runF, startP, endOf, dRet, dRetN, dIf, dIfS, dB, dBin, dUn, dV, dC, sE, asB, dSeq, dSet, dPar, dPar3, dAsg, dExpr, dAnd, dOr, dNot, bAnd, bOr, bNot, dTru, dCB, dCons, dNil, dTup, dLst, dChain, dPass, fCmpI, fIsN, gTp, gsCons, gsNil, gNm, mkTup, dSl, dPart, dNoPart, lim, iLt, iLe, iGt, iGe]
    · have hp : (0 : Int) < (b : Int) := by omega
      have e : fMod (.int a) (.int b) S = .ok (.int ((a % b : Nat) : Int)) S := by rw [mod_sm hp, fmod_nat]
      have lt := Nat.mod_lt a (by omega : 0 < b)
      have step := ih b (a % b) S (by omega)
      have hg : Nat.gcd b (a % b) = Nat.gcd a b := by rw [Nat.gcd_comm a b, Nat.gcd_rec b a, Nat.gcd_comm]
      simp only [runF, startP, endOf, dRet, dRetN, dIf, dIfS, dB, dBin, dUn, dV, dC, sE, asB, dSeq, dSet, dPar, dPar3, dAsg, dExpr, dAnd, dOr, dNot, bAnd, bOr, bNot, dTru, dCB, dCons, dNil, dTup, dLst, dChain, dPass, fCmpI, fIsN, gTp, gsCons, gsNil, gNm, mkTup, dSl, dPart, dNoPart, lim, iLt, iLe, iGt, iGe, List.getElem?_cons_succ, List.getElem?_cons_zero, Res.bind_ok, iGt, decide_eq_true hp, if_true, e, List.set_cons_zero, List.set_cons_succ]
      rw [step, hg]
theorem e_gcd {a b : Int} {S : Sto} (hb : b.natAbs < fuel) : F_common_divisor [.int a, .int b] S = .ok (.int (Int.gcd a b)) S := by
  have ab : ∀ i : Int, (if i < 0 then -i else i) = (i.natAbs : Int) := fun i => by split <;> omega
  have h := gcd_loop fuel a.natAbs b.natAbs S hb
  have e : F_common_divisor [.int a, .int b] S = endOf (match whileP (dB (dBin (fCmpI iGt) (dV 1) (dC (.int 0)))) (dPar 0 1 (dCons (dV 1) (dCons (dBin fMod (dV 0) (dV 1)) (dNil)))) fuel [some (.int (if a < 0 then -a else a)), some (.int (if b < 0 then -b else b))] S with
    | .nx ρ' S' => dRet (dV 0) ρ' S'
    | r => r) := rfl
  rw [e, ab, ab, h]
  rfl
theorem fuel_big {n : Nat} (h : n ≤ 10 ^ 601) : n < fuel := Nat.lt_of_le_of_lt h (by decide +kernel)
theorem e_too_great (S : Sto) : F_too_great [] S = .ok (.int big) S := by kernel_rfl
theorem gcd_sm {a b : Int} (hb : b ≠ 0) (h : b.natAbs ≤ 10 ^ 601) : 0 < ((Int.gcd a b : Nat) : Int) ∧ ((Int.gcd a b : Nat) : Int).natAbs ≤ 2 ^ 4000 := by
  have p := Int.gcd_pos_of_ne_zero_right a hb
  have l : Int.gcd a b ≤ b.natAbs := by
    have d : (Int.gcd a b : Nat) ∣ b.natAbs := Nat.gcd_dvd_right _ _
    exact Nat.le_of_dvd (by omega) d
  refine ⟨by omega, ?_⟩
  have := le4000 h
  rw [Int.natAbs_natCast]
  omega
/-- what made tells -/
def rQ (q : Rat) (S : Sto) : Res PV := if q.num.natAbs < 10 ^ 300 ∧ q.den < 10 ^ 300 then .ok (eQ q) S else .exc "NoFraction" [] S
theorem rQ_ok {q : Rat} {S : Sto} (h : Ok q) : rQ q S = .ok (eQ q) S := if_pos ⟨h.n, h.d⟩
theorem big_is : big = ((10 ^ 300 : Nat) : Int) := by decide +kernel
theorem e_made {a b : Int} {S : Sto} (hb : b ≠ 0) (h : b.natAbs ≤ 10 ^ 601) : F_made [.int a, .int b] S = rQ (Rat.divInt a b) S := by
  have h5 := e_gcd (a := a) (b := b) (S := S) (fuel_big h)
  obtain ⟨g0, g1⟩ := gcd_sm (a := a) hb h
  have dv : ∀ i S, fDiv (.int i) (.int ((Int.gcd a b : Nat) : Int)) S = .ok (.int (i.fdiv ((Int.gcd a b : Nat) : Int))) S := fun i S => div_sm g0 g1
  have e : (if b > 0 then PV.tup [.int (a.fdiv (Int.gcd a b)), .int (b.fdiv (Int.gcd a b))] else .tup [.int ((-a).fdiv (Int.gcd a b)), .int ((-b).fdiv (Int.gcd a b))]) = eQ (Rat.divInt a b) := by
    unfold eQ
    split
    · rename_i hp
      rw [num_div hp, den_div hp]
    · rw [num_divN (by omega), den_divN (by omega)]
  generalize hq : Rat.divInt a b = q at e
  have l1 : (big ≤ (if q.num < 0 then -q.num else q.num)) ↔ ¬ q.num.natAbs < 10 ^ 300 := by rw [big_is]; split <;> omega
  have l2 : (big ≤ (q.den : Int)) ↔ ¬ q.den < 10 ^ 300 := by rw [big_is]; omega
  have k : F_made [.int a, .int b] S = (if big ≤ (if q.num < 0 then -q.num else q.num) ∨ big ≤ (q.den : Int) then .exc "NoFraction" [] S else .ok (eQ q) S) := by
    by_cases hp : b > 0
    · rw [if_pos hp] at e
      by_cases c1 : big ≤ (if q.num < 0 then -q.num else q.num) <;> by_cases c2 : big ≤ (q.den : Int) <;>
        simp [F_made, d_made, runF, startP, endOf, dRet, dRetN, dIf, dIfS, dB, dBin, dUn, dV, dC, sE, asB, dSeq, dSet, dPar, dPar3, dAsg, dExpr, dAnd, dOr, dNot, bAnd, bOr, bNot, dTru, dCB, dCons, dNil, dTup, dLst, dChain, dPass, fCmpI, fIsN, gTp, gsCons, gsNil, gNm, mkTup, dSl, dPart, dNoPart, lim, iLt, iLe, iGt, iGe, h5, dv, hp, e, e_too_great, ix_q0, ix_q1, w_abs, c1, c2, dRaise]
    · rw [if_neg hp] at e
      by_cases c1 : big ≤ (if q.num < 0 then -q.num else q.num) <;> by_cases c2 : big ≤ (q.den : Int) <;>
        simp [F_made, d_made, runF, startP, endOf, dRet, dRetN, dIf, dIfS, dB, dBin, dUn, dV, dC, sE, asB, dSeq, dSet, dPar, dPar3, dAsg, dExpr, dAnd, dOr, dNot, bAnd, bOr, bNot, dTru, dCB, dCons, dNil, dTup, dLst, dChain, dPass, fCmpI, fIsN, gTp, gsCons, gsNil, gNm, mkTup, dSl, dPart, dNoPart, lim, iLt, iLe, iGt, iGe, h5, dv, hp, w_neg, e, e_too_great, ix_q0, ix_q1, w_abs, c1, c2, dRaise]
  rw [k]
  unfold rQ
  by_cases c1 : q.num.natAbs < 10 ^ 300 <;> by_cases c2 : q.den < 10 ^ 300 <;> simp [l1, l2, c1, c2]
/-! what is a fraction -/
theorem q_lim {q : Rat} (h : Ok q) : q.den ≤ 10 ^ 601 := by have := h.d; omega
theorem e_fraction {q : Rat} {S : Sto} (h : Ok q) : F_is_fraction [eQ q] S = .ok (.bl true) S := by
  have h1 : dLc false (iSeq (dV 0)) (cNm 1) (dYes) (dCB F_is_integer (dCons (dV 1) (dNil))) [1] [some (eQ q), none, none] S = .ok (.nl [.bl true, .bl true]) S := rfl
  have h2 : fAll [.nl [.bl true, .bl true]] S = .ok (.bl true) S := rfl
  have h3 : fIsi [eQ q, .ty "tuple"] S = .ok (.bl true) S := rfl
  have h4 : fLen [eQ q] S = .ok (.int 2) S := rfl
  have h5 := e_gcd (a := q.num) (b := q.den) (S := S) (fuel_big (by rw [Int.natAbs_natCast]; exact q_lim h))
  have h6 : ((Int.gcd q.num q.den : Nat) : Int) = 1 := by
    have := q.reduced
    have e : Int.gcd q.num q.den = 1 := this
    rw [e]; rfl
  have p : 0 < q.den := q.den_pos
  have l1 : (q.den : Int) < big := by rw [big_is]; have := h.d; omega
  have l2 : ¬ big ≤ (if q.num < 0 then -q.num else q.num) := by rw [big_is]; have := h.n; split <;> omega
  simp [F_is_fraction, d_is_fraction, runF, startP, endOf, dRet, dRetN, dIf, dIfS, dB, dBin, dUn, dV, dC, sE, asB, dSeq, dSet, dPar, dPar3, dAsg, dExpr, dAnd, dOr, dNot, bAnd, bOr, bNot, dTru, dCB, dCons, dNil, dTup, dLst, dChain, dPass, fCmpI, fIsN, gTp, gsCons, gsNil, gNm, mkTup, dSl, dPart, dNoPart, lim, iLt, iLe, iGt, iGe, h1, h2, h3, h4, h5, w_eq, truP, e_too_great, ix_q0, ix_q1, w_abs, p, l1, l2, h6]
theorem e_chkf {q : Rat} {S : Sto} (h : Ok q) : F_check_fraction [eQ q] S = .ok .non S := by
  simp [F_check_fraction, d_check_fraction, runF, startP, endOf, dRet, dRetN, dIf, dIfS, dB, dBin, dUn, dV, dC, sE, asB, dSeq, dSet, dPar, dPar3, dAsg, dExpr, dAnd, dOr, dNot, bAnd, bOr, bNot, dTru, dCB, dCons, dNil, dTup, dLst, dChain, dPass, fCmpI, fIsN, gTp, gsCons, gsNil, gNm, mkTup, dSl, dPart, dNoPart, lim, iLt, iLe, iGt, iGe, e_fraction h, truP]
theorem e_chk2 {x y : Rat} {S : Sto} (hx : Ok x) (hy : Ok y) : F_check_two [eQ x, eQ y] S = .ok .non S := by
  simp [F_check_two, d_check_two, runF, startP, endOf, dRet, dRetN, dIf, dIfS, dB, dBin, dUn, dV, dC, sE, asB, dSeq, dSet, dPar, dPar3, dAsg, dExpr, dAnd, dOr, dNot, bAnd, bOr, bNot, dTru, dCB, dCons, dNil, dTup, dLst, dChain, dPass, fCmpI, fIsN, gTp, gsCons, gsNil, gNm, mkTup, dSl, dPart, dNoPart, lim, iLt, iLe, iGt, iGe, e_chkf hx, e_chkf hy]
theorem dd_lim {x y : Rat} (hx : Ok x) (hy : Ok y) : ((x.den : Int) * (y.den : Int)).natAbs ≤ 10 ^ 601 := by
  have a := mul_abs hx.bd.dn hy.bd.dn
  exact Nat.le_trans a (by decide +kernel)
theorem sm_n {q : Rat} (h : Ok q) : q.num.natAbs ≤ 2 ^ 4000 := Nat.le_trans h.bd.n (by decide +kernel)
theorem sm_d {q : Rat} (h : Ok q) : (q.den : Int).natAbs ≤ 2 ^ 4000 := Nat.le_trans h.bd.dn (by decide +kernel)
theorem e_rplus {x y : Rat} {S : Sto} (hx : Ok x) (hy : Ok y) : F_raw_plus [eQ x, eQ y] S = rQ (x + y) S := by
  have m := e_made (a := x.num * y.den + y.num * x.den) (b := x.den * y.den) (S := S) (Int.mul_ne_zero (den0 x) (den0 y)) (dd_lim hx hy)
  rw [add_is] at m
  have a1 := fun S => mul_sm (S := S) (sm_n hx) (sm_d hy)
  have a2 := fun S => mul_sm (S := S) (sm_n hy) (sm_d hx)
  have a3 := fun S => mul_sm (S := S) (sm_d hx) (sm_d hy)
  have ev : F_raw_plus [eQ x, eQ y] S = endOf (sE (F_made [.int (x.num * y.den + y.num * x.den), .int (x.den * y.den)] S) [some (eQ x), some (eQ y)] fun v S1 => .rt v S1) := by
    simp [F_raw_plus, d_raw_plus, runF, startP, endOf, dRet, dRetN, dIf, dIfS, dB, dBin, dUn, dV, dC, sE, asB, dSeq, dSet, dPar, dPar3, dAsg, dExpr, dAnd, dOr, dNot, bAnd, bOr, bNot, dTru, dCB, dCons, dNil, dTup, dLst, dChain, dPass, fCmpI, fIsN, gTp, gsCons, gsNil, gNm, mkTup, dSl, dPart, dNoPart, lim, iLt, iLe, iGt, iGe, -sE, ix_q0, ix_q1, a1, a2, a3, w_add]
  rw [ev, m]
  unfold rQ
  split <;> rfl
theorem dn_lim {x y : Rat} (hx : Ok x) (hy : Ok y) : ((x.den : Int) * y.num).natAbs ≤ 10 ^ 601 := by
  have a := mul_abs hx.bd.dn hy.bd.n
  exact Nat.le_trans a (by decide +kernel)
theorem e_raw_less {x y : Rat} {S : Sto} (hx : Ok x) (hy : Ok y) : F_raw_less [eQ x, eQ y] S = rQ (x - y) S := by
  have m := e_made (a := x.num * y.den - y.num * x.den) (b := x.den * y.den) (S := S) (Int.mul_ne_zero (den0 x) (den0 y)) (dd_lim hx hy)
  rw [sub_is] at m
  have a1 := fun S => mul_sm (S := S) (sm_n hx) (sm_d hy)
  have a2 := fun S => mul_sm (S := S) (sm_n hy) (sm_d hx)
  have a3 := fun S => mul_sm (S := S) (sm_d hx) (sm_d hy)
  have a4 := fun S => mul_sm (S := S) (sm_n hx) (sm_n hy)
  have a5 := fun S => mul_sm (S := S) (sm_d hx) (sm_n hy)
  have ev : F_raw_less [eQ x, eQ y] S = endOf (sE (F_made [.int (x.num * y.den - y.num * x.den), .int (x.den * y.den)] S) [some (eQ x), some (eQ y)] fun v S1 => .rt v S1) := by
    simp [F_raw_less, d_raw_less, runF, startP, endOf, dRet, dRetN, dIf, dIfS, dB, dBin, dUn, dV, dC, sE, asB, dSeq, dSet, dPar, dPar3, dAsg, dExpr, dAnd, dOr, dNot, bAnd, bOr, bNot, dTru, dCB, dCons, dNil, dTup, dLst, dChain, dPass, fCmpI, fIsN, gTp, gsCons, gsNil, gNm, mkTup, dSl, dPart, dNoPart, lim, iLt, iLe, iGt, iGe, -sE, ix_q0, ix_q1, a1, a2, a3, a4, a5, w_add, w_sub]
  rw [ev, m]
  unfold rQ
  split <;> rfl
theorem e_raw_times {x y : Rat} {S : Sto} (hx : Ok x) (hy : Ok y) : F_raw_times [eQ x, eQ y] S = rQ (x * y) S := by
  have m := e_made (a := x.num * y.num) (b := x.den * y.den) (S := S) (Int.mul_ne_zero (den0 x) (den0 y)) (dd_lim hx hy)
  rw [mul_is] at m
  have a1 := fun S => mul_sm (S := S) (sm_n hx) (sm_d hy)
  have a2 := fun S => mul_sm (S := S) (sm_n hy) (sm_d hx)
  have a3 := fun S => mul_sm (S := S) (sm_d hx) (sm_d hy)
  have a4 := fun S => mul_sm (S := S) (sm_n hx) (sm_n hy)
  have a5 := fun S => mul_sm (S := S) (sm_d hx) (sm_n hy)
  have ev : F_raw_times [eQ x, eQ y] S = endOf (sE (F_made [.int (x.num * y.num), .int (x.den * y.den)] S) [some (eQ x), some (eQ y)] fun v S1 => .rt v S1) := by
    simp [F_raw_times, d_raw_times, runF, startP, endOf, dRet, dRetN, dIf, dIfS, dB, dBin, dUn, dV, dC, sE, asB, dSeq, dSet, dPar, dPar3, dAsg, dExpr, dAnd, dOr, dNot, bAnd, bOr, bNot, dTru, dCB, dCons, dNil, dTup, dLst, dChain, dPass, fCmpI, fIsN, gTp, gsCons, gsNil, gNm, mkTup, dSl, dPart, dNoPart, lim, iLt, iLe, iGt, iGe, -sE, ix_q0, ix_q1, a1, a2, a3, a4, a5, w_add, w_sub]
  rw [ev, m]
  unfold rQ
  split <;> rfl
theorem e_raw_by {x y : Rat} {S : Sto} (hx : Ok x) (hy : Ok y) (h0 : y ≠ 0) : F_raw_by [eQ x, eQ y] S = rQ (x / y) S := by
  have m := e_made (a := x.num * y.den) (b := x.den * y.num) (S := S) (Int.mul_ne_zero (den0 x) (fun h => h0 (num0.mp h))) (dn_lim hx hy)
  rw [div_is] at m
  have a1 := fun S => mul_sm (S := S) (sm_n hx) (sm_d hy)
  have a2 := fun S => mul_sm (S := S) (sm_n hy) (sm_d hx)
  have a3 := fun S => mul_sm (S := S) (sm_d hx) (sm_d hy)
  have a4 := fun S => mul_sm (S := S) (sm_n hx) (sm_n hy)
  have a5 := fun S => mul_sm (S := S) (sm_d hx) (sm_n hy)
  have ev : F_raw_by [eQ x, eQ y] S = endOf (sE (F_made [.int (x.num * y.den), .int (x.den * y.num)] S) [some (eQ x), some (eQ y)] fun v S1 => .rt v S1) := by
    simp [F_raw_by, d_raw_by, runF, startP, endOf, dRet, dRetN, dIf, dIfS, dB, dBin, dUn, dV, dC, sE, asB, dSeq, dSet, dPar, dPar3, dAsg, dExpr, dAnd, dOr, dNot, bAnd, bOr, bNot, dTru, dCB, dCons, dNil, dTup, dLst, dChain, dPass, fCmpI, fIsN, gTp, gsCons, gsNil, gNm, mkTup, dSl, dPart, dNoPart, lim, iLt, iLe, iGt, iGe, -sE, ix_q0, ix_q1, a1, a2, a3, a4, a5, w_add, w_sub]
  rw [ev, m]
  unfold rQ
  split <;> rfl
theorem e_plus {x y : Rat} {S : Sto} (hx : Ok x) (hy : Ok y) : F_plus [eQ x, eQ y] S = rQ (x + y) S := by
  have a := e_rplus (S := S) hx hy
  have ev : F_plus [eQ x, eQ y] S = endOf (sE (F_raw_plus [eQ x, eQ y] S) [some (eQ x), some (eQ y)] fun v S1 => .rt v S1) := by
    simp [F_plus, d_plus, runF, startP, endOf, dRet, dRetN, dIf, dIfS, dB, dBin, dUn, dV, dC, sE, asB, dSeq, dSet, dPar, dPar3, dAsg, dExpr, dAnd, dOr, dNot, bAnd, bOr, bNot, dTru, dCB, dCons, dNil, dTup, dLst, dChain, dPass, fCmpI, fIsN, gTp, gsCons, gsNil, gNm, mkTup, dSl, dPart, dNoPart, lim, iLt, iLe, iGt, iGe, -sE, e_chk2 hx hy]
    try rfl
  rw [ev, a]
  unfold rQ
  split <;> rfl
theorem e_less {x y : Rat} {S : Sto} (hx : Ok x) (hy : Ok y) : F_less [eQ x, eQ y] S = rQ (x - y) S := by
  have a := e_raw_less (S := S) hx hy
  have ev : F_less [eQ x, eQ y] S = endOf (sE (F_raw_less [eQ x, eQ y] S) [some (eQ x), some (eQ y)] fun v S1 => .rt v S1) := by
    simp [F_less, d_less, runF, startP, endOf, dRet, dRetN, dIf, dIfS, dB, dBin, dUn, dV, dC, sE, asB, dSeq, dSet, dPar, dPar3, dAsg, dExpr, dAnd, dOr, dNot, bAnd, bOr, bNot, dTru, dCB, dCons, dNil, dTup, dLst, dChain, dPass, fCmpI, fIsN, gTp, gsCons, gsNil, gNm, mkTup, dSl, dPart, dNoPart, lim, iLt, iLe, iGt, iGe, -sE, e_chk2 hx hy]
    try rfl
  rw [ev, a]
  unfold rQ
  split <;> rfl
theorem e_times {x y : Rat} {S : Sto} (hx : Ok x) (hy : Ok y) : F_times [eQ x, eQ y] S = rQ (x * y) S := by
  have a := e_raw_times (S := S) hx hy
  have ev : F_times [eQ x, eQ y] S = endOf (sE (F_raw_times [eQ x, eQ y] S) [some (eQ x), some (eQ y)] fun v S1 => .rt v S1) := by
    simp [F_times, d_times, runF, startP, endOf, dRet, dRetN, dIf, dIfS, dB, dBin, dUn, dV, dC, sE, asB, dSeq, dSet, dPar, dPar3, dAsg, dExpr, dAnd, dOr, dNot, bAnd, bOr, bNot, dTru, dCB, dCons, dNil, dTup, dLst, dChain, dPass, fCmpI, fIsN, gTp, gsCons, gsNil, gNm, mkTup, dSl, dPart, dNoPart, lim, iLt, iLe, iGt, iGe, -sE, e_chk2 hx hy]
    try rfl
  rw [ev, a]
  unfold rQ
  split <;> rfl
end G58
end
section
set_option Elab.async false
set_option linter.all false
set_option maxRecDepth 100000
set_option maxHeartbeats 4000000
namespace G58
open PySem PySem.Spec PyProof.Rows L2 Mi Ra
theorem pw_loop (b : Nat) : ∀ (xs : List PV) (f : Nat) (e t : Option PV) (S : Sto), f * b ^ xs.length ≤ 2 ^ 4000 → 0 < b → b ≤ 1000 →
    ∃ t', forP (gNm 3) (dSet 2 (dBin (fMul false) (dV 2) (dV 0))) xs [some (.int b), e, some (.int f), t] S = .nx [some (.int b), e, some (.int ((f * b ^ xs.length : Nat) : Int)), t'] S
  | [], f, e, t, S, _, _, _ => ⟨t, by simp [forP]⟩
  | x :: xs, f, e, t, S, h, hb, hb2 => by
    rw [List.length_cons, Nat.pow_succ] at h
    have e1 : f * (b ^ xs.length * b) = f * b * b ^ xs.length := by rw [Nat.mul_comm (b ^ xs.length) b, Nat.mul_assoc]
    rw [e1] at h
    have p : 0 < b ^ xs.length := Nat.pow_pos hb
    have hf : f * b ≤ 2 ^ 4000 := Nat.le_trans (Nat.le_mul_of_pos_right _ p) h
    have hf2 : f ≤ 2 ^ 4000 := Nat.le_trans (Nat.le_mul_of_pos_right _ hb) hf
    have m := fun S => mul_sm (i := (f : Int)) (j := (b : Int)) (S := S) (by simpa using hf2) (by rw [Int.natAbs_natCast]; exact Nat.le_trans hb2 (by decide +kernel))
    obtain ⟨t', ih⟩ := pw_loop b xs (f * b) e (some x) S h hb hb2
    refine ⟨t', ?_⟩
    rw [forP, List.length_cons, Nat.pow_succ, e1, ← ih]
    simp [runF, startP, endOf, dRet, dRetN, dIf, dIfS, dB, dBin, dUn, dV, dC, sE, asB, dSeq, dSet, dPar, dPar3, dAsg, dExpr, dAnd, dOr, dNot, bAnd, bOr, bNot, dTru, dCB, dCons, dNil, dTup, dLst, dChain, dPass, fCmpI, fIsN, gTp, gsCons, gsNil, gNm, mkTup, dSl, dPart, dNoPart, lim, iLt, iLe, iGt, iGe, m]
end G58
end
section
set_option Elab.async false
set_option linter.all false
set_option maxRecDepth 100000
set_option maxHeartbeats 4000000
namespace G58
open PySem PySem.Spec PyProof.Rows L2 Mi Ra

/-! ### formats -/
theorem ix_f0 (f : Fm) (S : Sto) : fIx (eF f) (.int 0) S = .ok (.int f.b) S := rfl
theorem ix_f1 (f : Fm) (S : Sto) : fIx (eF f) (.int 1) S = .ok (.int f.k) S := rfl
theorem ix_f2 (f : Fm) (S : Sto) : fIx (eF f) (.int 2) S = .ok (.int f.lo) S := rfl
theorem ix_f3 (f : Fm) (S : Sto) : fIx (eF f) (.int 3) S = .ok (.int f.hi) S := rfl
abbrev sQ (x : Rat) (S : Sto) : PV := eQ x
theorem pw_parts {b : Nat} (hb : 0 < b) (e : Int) : ∃ M : Nat, 0 < M ∧ M = (pw b e).den ∧ ∃ T : Nat, (pw b e).num = (T : Int) ∧ (T : Rat) = pw b e * (M : Rat) := by
  have p := pw_pos hb e
  have n : 0 ≤ (pw b e).num := num_nn.mpr (Rat.le_of_lt p)
  refine ⟨(pw b e).den, (pw b e).den_pos, rfl, (pw b e).num.toNat, by omega, ?_⟩
  rw [← num_is, ← Rat.intCast_natCast]
  congr 1
  omega
theorem pow_mono {b : Nat} (hb : 1 ≤ b) {m n : Nat} (h : m ≤ n) : b ^ m ≤ b ^ n := Nat.pow_le_pow_right hb h
theorem pw_num {b : Nat} (hb : 0 < b) (e : Int) : (pw b e).num.natAbs ≤ b ^ e.natAbs ∧ (pw b e).den ≤ b ^ e.natAbs := by
  have p := Nat.pow_pos (n := e.natAbs) hb
  by_cases h : 0 ≤ e
  · have := pw_nn (b := b) h
    rw [this.1, this.2, Int.natAbs_natCast]
    omega
  · have := pw_ng (b := b) hb h
    rw [this.1]
    have := this.2
    omega
theorem sh_le {f : Fm} (hf : FmOk f) {n : Nat} (h : n ≤ f.k.natAbs + max f.lo.natAbs f.hi.natAbs) : f.b ^ n ≤ 10 ^ 140 := Nat.le_trans (pow_mono (by have := hf.b0; omega) h) hf.sh
end G58
end
section
set_option Elab.async false
set_option linter.all false
set_option maxRecDepth 100000
set_option maxHeartbeats 4000000
namespace G58
open PySem PySem.Spec PyProof.Rows L2 Mi Ra

/-! ### gaps, rounding -/
theorem b_pos {f : Fm} (hf : FmOk f) : 0 < f.b := by have := hf.b0; omega
theorem ex_big {f : Fm} {x : Rat} (hf : FmOk f) (hx : Ok x) : -400 ≤ exO f x ∧ exO f x ≤ 1000 := by
  have h := exO_is hf hx
  have l0 := hf.l0
  have l1 := hf.l1
  have k0 := hf.k0
  refine ⟨by have := h.1; omega, ?_⟩
  rcases h.2.2 with q | q
  · omega
  · by_cases z : exO f x ≤ 1000
    · exact z
    · have := pw_big hf.b0 (e := f.k + (exO f x - 1)) (by omega) hx.abs
      grind
theorem pw_ok {f : Fm} (hf : FmOk f) {e : Int} (h1 : f.lo ≤ e) (h2 : pw f.b e < ((10 ^ 300 : Nat) : Rat)) : Ok (pw f.b e) ∧ (pw f.b e).den ≤ f.b ^ f.lo.natAbs := by
  have hb := b_pos hf
  by_cases h : 0 ≤ e
  · have p := pw_nn (b := f.b) h
    have e1 : pw f.b e = ((f.b ^ e.natAbs : Nat) : Rat) := by unfold pw; rw [if_pos h]
    rw [e1, Rat.natCast_lt_natCast] at h2
    have := Nat.pow_pos (n := f.lo.natAbs) hb
    refine ⟨⟨by rw [p.1, Int.natAbs_natCast]; exact h2, by rw [p.2]; decide +kernel⟩, by rw [p.2]; omega⟩
  · have p := pw_ng hb h
    have l : f.b ^ e.natAbs ≤ f.b ^ f.lo.natAbs := pow_mono hb (by omega)
    have l2 : f.b ^ f.lo.natAbs ≤ 10 ^ 140 := sh_le hf (by omega)
    have l3 : (10 : Nat) ^ 140 < 10 ^ 300 := by decide +kernel
    have := p.2
    refine ⟨⟨by rw [p.1]; decide +kernel, by omega⟩, by omega⟩
theorem gap_ok {f : Fm} {x : Rat} (hf : FmOk f) (hx : Ok x) : Ok (gapR f x) ∧ (gapR f x).den ≤ f.b ^ f.lo.natAbs := by
  have h := exO_is hf hx
  have hb := b_pos hf
  have k0 := hf.k0
  refine pw_ok hf h.1 ?_
  rcases h.2.2 with q | q
  · rw [q]
    have a := pw_mono (b := f.b) hb (show f.lo ≤ ((f.lo.natAbs : Nat) : Int) by omega)
    have e : pw f.b ((f.lo.natAbs : Nat) : Int) = ((f.b ^ f.lo.natAbs : Nat) : Rat) := by unfold pw; rw [if_pos (by omega)]; rfl
    have l2 : f.b ^ f.lo.natAbs ≤ 10 ^ 140 := sh_le hf (by omega)
    have l3 : ((f.b ^ f.lo.natAbs : Nat) : Rat) < ((10 ^ 300 : Nat) : Rat) := Rat.natCast_lt_natCast.mpr (Nat.lt_of_le_of_lt l2 (by decide +kernel))
    rw [e] at a
    grind
  · have a := pw_mono (b := f.b) hb (show exO f x ≤ f.k + (exO f x - 1) by omega)
    have := hx.abs.lt
    grind
theorem q_nat (n : Nat) : PV.tup [.int (n : Int), .int 1] = eQ (n : Rat) := by unfold eQ; rw [Rat.num_natCast, Rat.den_natCast]; rfl
theorem q_int (n : Int) : PV.tup [.int n, .int 1] = eQ (n : Rat) := by unfold eQ; rw [Rat.num_intCast, Rat.den_intCast]; rfl
theorem pw_bd {f : Fm} (hf : FmOk f) {e : Int} (h : e.natAbs ≤ f.k.natAbs + max f.lo.natAbs f.hi.natAbs) : Bd (10 ^ 140) (pw f.b e) := by
  have b := pw_num (b_pos hf) e
  have l := sh_le hf h
  exact ⟨Nat.le_trans b.1 l, Nat.le_trans b.2 l⟩
theorem nat_bd {n k : Nat} (h : n ≤ k) (hk : 1 ≤ k) : Bd k (n : Rat) := ⟨by rw [Rat.num_natCast, Int.natAbs_natCast]; exact h, by rw [Rat.den_natCast]; exact hk⟩
theorem most_bd {f : Fm} (hf : FmOk f) : Bd (10 ^ 140 * 10 ^ 140) (mostR f) := by
  have l := sh_le hf (n := f.k.toNat) (by omega)
  exact Bd.mul (nat_bd (by omega) (by decide +kernel)) (pw_bd hf (by omega))
theorem most_ok {f : Fm} (hf : FmOk f) : Ok (mostR f) := (most_bd hf).ok (by decide +kernel)
end G58
end
section
set_option Elab.async false
set_option linter.all false
set_option maxRecDepth 100000
set_option maxHeartbeats 4000000
namespace G58
open PySem PySem.Spec PyProof.Rows L2 Mi Ra
/-! ### rounding -/
theorem floor_is {a b : Int} (hb : 0 < b) : (Rat.divInt a b).floor = a.fdiv b := by
  have p : (0 : Rat) < (b : Rat) := by
    have := (Rat.intCast_lt_intCast (a := 0) (b := b)).mpr hb
    exact this
  have e : (Rat.divInt a b) * (b : Rat) = (a : Rat) := by rw [div_eq]; grind
  have f := Int.mul_fdiv_add_fmod a b
  have m0 := Int.fmod_nonneg_of_pos a hb
  have m1 := Int.fmod_lt_of_pos a hb
  have c1 : ((a.fdiv b : Int) : Rat) * (b : Rat) ≤ (a : Rat) := by
    rw [← Rat.intCast_mul, int_le, Int.mul_comm]
    omega
  have c2 : (a : Rat) < ((a.fdiv b + 1 : Int) : Rat) * (b : Rat) := by
    rw [← Rat.intCast_mul, Rat.intCast_lt_intCast, Int.mul_comm, Int.mul_add]
    omega
  rw [← e] at c1 c2
  refine Int.le_antisymm ?_ ?_
  · have := Rat.floor_lt_iff.mpr ((Rat.mul_lt_mul_right p).mp c2)
    omega
  · exact Rat.le_floor_iff.mpr (Rat.le_of_mul_le_mul_right c1 p)
theorem near_cmp {a b : Int} (hb : 0 < b) : (2 * (a - (a.fdiv b) * b) = b ↔ 2 * (Rat.divInt a b - ((Rat.divInt a b).floor : Rat)) = 1) ∧ (2 * (a - (a.fdiv b) * b) < b ↔ 2 * (Rat.divInt a b - ((Rat.divInt a b).floor : Rat)) < 1) := by
  rw [floor_is hb]
  have p : (0 : Rat) < (b : Rat) := by
    have := (Rat.intCast_lt_intCast (a := 0) (b := b)).mpr hb
    exact this
  have e : (a : Rat) = (Rat.divInt a b) * (b : Rat) := by rw [div_eq]; grind
  have e2 : ((2 * (a - (a.fdiv b) * b) : Int) : Rat) = 2 * (Rat.divInt a b - ((a.fdiv b : Int) : Rat)) * (b : Rat) := by
    rw [Rat.intCast_mul, Rat.intCast_sub, Rat.intCast_mul, e]
    have : ((2 : Int) : Rat) = 2 := rfl
    rw [this]
    grind
  have c1 : (b : Rat) = 1 * (b : Rat) := (Rat.one_mul _).symm
  constructor
  · rw [← Rat.intCast_inj, e2]
    constructor
    · intro h
      have n : (b : Rat) ≠ 0 := by grind
      generalize 2 * (Rat.divInt a b - ((a.fdiv b : Int) : Rat)) = t at h
      grind
    · intro h; rw [h]; grind
  · rw [← Rat.intCast_lt_intCast, e2]
    conv => lhs; rhs; rw [c1]
    exact Rat.mul_lt_mul_right p
def eY : Wy → PV
  | .near => .str "near"
  | .down => .str "down"
  | .up => .str "up"
  | .zero => .str "zero"
theorem ix_t0 {a b : Int} {S : Sto} : fIx (.tup [.int a, .int b]) (.int 0) S = .ok (.int a) S := rfl
theorem ix_t1 {a b : Int} {S : Sto} : fIx (.tup [.int a, .int b]) (.int 1) S = .ok (.int b) S := rfl
theorem fdiv_abs2 {a b : Int} (hb : 0 < b) : (a.fdiv b).natAbs ≤ a.natAbs + 1 := by
  have f := Int.mul_fdiv_add_fmod a b
  have m0 := Int.fmod_nonneg_of_pos a hb
  have m1 := Int.fmod_lt_of_pos a hb
  generalize a.fdiv b = q at *
  generalize a.fmod b = r at *
  by_cases h : 0 ≤ q
  · have := Int.mul_le_mul_of_nonneg_right (show 1 ≤ b by omega) h
    omega
  · have := Int.mul_le_mul_of_nonpos_right (show 1 ≤ b by omega) (show q + 1 ≤ 0 by omega)
    rw [Int.mul_add] at this
    omega
theorem ceil_is {a b : Int} (hb : 0 < b) : (-(Rat.divInt a b)).floor = (-a).fdiv b := by
  rw [← floor_is hb]
  congr 1
  rw [div_eq, div_eq, Rat.intCast_neg]
  grind
theorem div_sgn {a b : Int} (hb : 0 < b) : 0 ≤ Rat.divInt a b ↔ 0 ≤ a := by
  have p : (0 : Rat) < (b : Rat) := by
    have := (Rat.intCast_lt_intCast (a := 0) (b := b)).mpr hb
    exact this
  have e : (Rat.divInt a b) * (b : Rat) = (a : Rat) := by rw [div_eq]; grind
  have z : (0 : Int) ≤ a ↔ (0 : Rat) ≤ (a : Rat) := (int_le (a := 0) (b := a)).symm
  rw [z, ← e]
  constructor
  · intro h; exact Rat.mul_nonneg h (Rat.le_of_lt p)
  · intro h
    by_cases q : 0 ≤ Rat.divInt a b
    · exact q
    · have := Rat.mul_pos (show 0 < -(Rat.divInt a b) by grind) p
      grind
theorem sm_dim {f : Fm} {x : Rat} (hf : FmOk f) (hx : Ok x) : (x.num * ((gapR f x).den : Int)).natAbs ≤ 2 ^ 3000 ∧ ((x.den : Int) * (gapR f x).num).natAbs ≤ 2 ^ 3000 := by
  have g := (gap_ok hf hx).1
  exact ⟨Nat.le_trans (mul_abs hx.bd.n g.bd.dn) (by decide +kernel), Nat.le_trans (mul_abs hx.bd.dn g.bd.n) (by decide +kernel)⟩
/-- how many gaps there are at most in a number -/
theorem rnd_most {f : Fm} {w : Wy} {x : Rat} (hf : FmOk f) (hx : Ok x) : (rnd w (x / gapR f x)).natAbs ≤ 10 ^ 140 := by
  have h := exO_is hf hx
  have l := h.2.1
  rw [pw_k hf] at l
  have b := rnd_abs (w := w) (gap_pos hf x) (Rat.le_of_lt l)
  have l := sh_le hf (n := f.k.toNat) (by have := hf.k0; omega)
  omega
theorem int_bd {n : Int} {k : Nat} (h : n.natAbs ≤ k) (hk : 1 ≤ k) : Bd k (n : Rat) := ⟨by rw [Rat.num_intCast]; exact h, by rw [Rat.den_intCast]; exact hk⟩
theorem cmp_most {n : Nat} {g M : Rat} : (M.num * (g.den : Int) < (n : Int) * g.num * (M.den : Int)) ↔ ¬ ((n : Rat) * g ≤ M) := by
  have d1 : (0 : Rat) < (g.den : Rat) := by have := Rat.natCast_lt_natCast.mpr g.den_pos; exact this
  have d2 : (0 : Rat) < (M.den : Rat) := by have := Rat.natCast_lt_natCast.mpr M.den_pos; exact this
  have p : (0 : Rat) < (g.den : Rat) * (M.den : Rat) := Rat.mul_pos d1 d2
  have e1 : ((M.num * (g.den : Int) : Int) : Rat) = M * ((g.den : Rat) * (M.den : Rat)) := by
    rw [Rat.intCast_mul, num_is, Rat.intCast_natCast]; grind
  have e2 : (((n : Int) * g.num * (M.den : Int) : Int) : Rat) = ((n : Rat) * g) * ((g.den : Rat) * (M.den : Rat)) := by
    rw [Rat.intCast_mul, Rat.intCast_mul, num_is, Rat.intCast_natCast, Rat.intCast_natCast]; grind
  rw [← Rat.intCast_lt_intCast, e1, e2, Rat.mul_lt_mul_right p]
  grind
theorem abs_cast (n : Int) : ((n : Rat)).abs = ((n.natAbs : Nat) : Rat) := by
  rw [abs_is', ← Rat.intCast_natCast]
  have z : ((n : Rat) < 0) ↔ n < 0 := Rat.intCast_lt_intCast (a := n) (b := 0)
  by_cases h : n < 0
  · rw [if_pos (z.mpr h), ← Rat.intCast_neg]; congr 1; omega
  · rw [if_neg (fun q => h (z.mp q))]; congr 1; omega
theorem den_dvd {a b : Int} (hb : 0 < b) : ((Rat.divInt a b).den : Int) ∣ b := by
  rw [den_div hb]
  exact ⟨(Int.gcd a b : Nat), (Int.fdiv_mul_cancel (Int.gcd_dvd_right a b)).symm⟩
theorem mul_den (n : Int) (g : Rat) : ((n : Rat) * g).den ∣ g.den := by
  have e := mul_is (n : Rat) g
  rw [Rat.den_intCast, Int.natCast_one, Int.one_mul] at e
  rw [← e]
  exact Int.natCast_dvd_natCast.mp (den_dvd (den_p g))
/-- numbers of the format are short -/
theorem num_bd {f : Fm} {r : Rat} {B : Nat} (hf : FmOk f) (hB : f.b ^ (f.k.natAbs + max f.lo.natAbs f.hi.natAbs) ≤ B) (h : IsNum f r) (ok : Ok r) : r.num.natAbs ≤ B * B ∧ r.den ≤ B := by
  have hb := b_pos hf
  have gd := (gap_ok hf ok).2
  obtain ⟨l, m, e⟩ := h
  have dd : r.den ∣ (gapR f r).den := by
    have := mul_den m (gapR f r)
    rw [← e] at this
    exact this
  have d1 : r.den ≤ (gapR f r).den := Nat.le_of_dvd (gapR f r).den_pos dd
  have d2 : f.b ^ f.lo.natAbs ≤ B := Nat.le_trans (pow_mono hb (by omega)) hB
  have dB : r.den ≤ B := by omega
  refine ⟨?_, dB⟩
  have ml : mostR f ≤ (B : Rat) := by
    have a := Rat.le_of_lt (most_lt hf)
    have b := pw_mono (b := f.b) hb (show f.k + f.hi ≤ ((f.k.natAbs + max f.lo.natAbs f.hi.natAbs : Nat) : Int) by omega)
    have c : pw f.b ((f.k.natAbs + max f.lo.natAbs f.hi.natAbs : Nat) : Int) = ((f.b ^ (f.k.natAbs + max f.lo.natAbs f.hi.natAbs) : Nat) : Rat) := by unfold pw; rw [if_pos (by omega)]; rfl
    rw [c] at b
    have d := nat_le.mpr hB
    exact Rat.le_trans a (Rat.le_trans b d)
  have n1 : ((r.num.natAbs : Nat) : Rat) ≤ (B : Rat) * (B : Rat) := by
    rw [← abs_cast, num_is, abs_mul]
    have e2 : ((r.den : Nat) : Rat).abs = (r.den : Rat) := by
      rw [abs_is', if_neg]
      have := nat_le.mpr (Nat.zero_le r.den)
      have z : ((0 : Nat) : Rat) = 0 := rfl
      grind
    rw [e2]
    exact mul_mono (Rat.le_trans l ml) (nat_le.mpr dB) (abs_nn' _) (nat_le.mpr (Nat.zero_le _))
  rw [← Rat.natCast_mul, nat_le] at n1
  exact n1
theorem prod_ok {f : Fm} {n : Int} {x : Rat} (hf : FmOk f) (hx : Ok x) (hn : n.natAbs ≤ 10 ^ 140) (h : ((n : Rat) * gapR f x).abs ≤ mostR f) : Ok ((n : Rat) * gapR f x) := by
  have gk := gap_ok hf hx
  have hb := b_pos hf
  have d2 : f.b ^ f.lo.natAbs ≤ 10 ^ 140 := sh_le hf (by omega)
  have dd : ((n : Rat) * gapR f x).den ≤ 10 ^ 140 := by
    have := Nat.le_of_dvd (gapR f x).den_pos (mul_den n (gapR f x))
    omega
  have ml : mostR f ≤ ((10 ^ 140 : Nat) : Rat) := by
    have a := Rat.le_of_lt (most_lt hf)
    have b := pw_mono (b := f.b) hb (show f.k + f.hi ≤ ((f.k.natAbs + max f.lo.natAbs f.hi.natAbs : Nat) : Int) by omega)
    have c : pw f.b ((f.k.natAbs + max f.lo.natAbs f.hi.natAbs : Nat) : Int) = ((f.b ^ (f.k.natAbs + max f.lo.natAbs f.hi.natAbs) : Nat) : Rat) := by unfold pw; rw [if_pos (by omega)]; rfl
    rw [c] at b
    have d := nat_le.mpr hf.sh
    exact Rat.le_trans a (Rat.le_trans b d)
  generalize (n : Rat) * gapR f x = r at *
  have n1 : ((r.num.natAbs : Nat) : Rat) ≤ ((10 ^ 140 : Nat) : Rat) * ((10 ^ 140 : Nat) : Rat) := by
    rw [← abs_cast, num_is, abs_mul]
    have e2 : ((r.den : Nat) : Rat).abs = (r.den : Rat) := by
      rw [abs_is', if_neg]
      have := nat_le.mpr (Nat.zero_le r.den)
      have z : ((0 : Nat) : Rat) = 0 := rfl
      grind
    rw [e2]
    exact mul_mono (Rat.le_trans h ml) (nat_le.mpr dd) (abs_nn' _) (nat_le.mpr (Nat.zero_le _))
  rw [← Rat.natCast_mul, nat_le] at n1
  exact ⟨Nat.lt_of_le_of_lt n1 (by decide +kernel), Nat.lt_of_le_of_lt dd (by decide +kernel)⟩
def eO : Option Rat → PV
  | none => .non
  | some q => eQ q
end G58
end
section
set_option Elab.async false
set_option linter.all false
set_option maxRecDepth 100000
set_option maxHeartbeats 4000000
namespace G58
open PySem PySem.Spec PyProof.Rows L2 Mi Ra
/-! ### formats, ways, words -/
theorem len_eF {f : Fm} {S : Sto} : fLen [eF f] S = .ok (.int 4) S := rfl
theorem isi_eF {f : Fm} {S : Sto} : fIsi [eF f, .ty "tuple"] S = .ok (.bl true) S := rfl
theorem digs_sm (b : Nat) : (digs b).natAbs ≤ 13 := by
  unfold digs
  split
  · decide
  · split
    · decide
    · split <;> decide
theorem fmod_dvd {a b : Int} (hb : 0 < b) (m : Int) (h : a = m * b) : a.fmod b = 0 := by rw [h, Int.fmod_eq_emod_of_nonneg _ (by omega)]; exact Int.mul_emod_left m b
end G58
end
section
set_option Elab.async false
set_option linter.all false
set_option maxRecDepth 100000
set_option maxHeartbeats 4000000
namespace G58
open PySem PySem.Spec PyProof.Rows L2 Mi Ra
/-! ### holds -/
def eH (h : Hd) : PV := .tup [eQ h.lo, eQ h.hi, eQ h.off]
structure HOk (h : Hd) : Prop where
  lo : Ok h.lo
  hi : Ok h.hi
  off : Ok h.off
def eW : Wrd → PV
  | .neg => .str "neg"
  | .size => .str "size"
  | .add => .str "add"
  | .sub => .str "sub"
  | .mul => .str "mul"
  | .div => .str "div"
  | .least => .str "least"
  | .most => .str "most"
theorem ix_h0 (h : Hd) (S : Sto) : fIx (eH h) (.int 0) S = .ok (eQ h.lo) S := rfl
theorem ix_h1 (h : Hd) (S : Sto) : fIx (eH h) (.int 1) S = .ok (eQ h.hi) S := rfl
theorem ix_h2 (h : Hd) (S : Sto) : fIx (eH h) (.int 2) S = .ok (eQ h.off) S := rfl
theorem isi_h (h : Hd) (S : Sto) : fIsi [eH h, .ty "tuple"] S = .ok (.bl true) S := rfl
theorem len_h (h : Hd) (S : Sto) : fLen [eH h] S = .ok (.int 3) S := rfl
theorem isi_q (q : Rat) (S : Sto) : fIsi [eQ q, .ty "tuple"] S = .ok (.bl true) S := rfl
def join (a b : Hd) : Hd := ⟨rmin a.lo b.lo, rmax a.hi b.hi, rmax a.off b.off⟩
theorem ok_max {x y : Rat} (hx : Ok x) (hy : Ok y) : Ok (rmax x y) := by unfold rmax; split <;> assumption
theorem ok_min {x y : Rat} (hx : Ok x) (hy : Ok y) : Ok (rmin x y) := by unfold rmin; split <;> assumption
theorem ok_0 : Ok (0 : Rat) := ⟨by decide +kernel, by decide +kernel⟩
theorem ok_mx {x y : Rat} (hx : Ok x) (hy : Ok y) : Ok (mx x y) := ok_max hx.abs hy.abs
theorem ok_ls {x y : Rat} (hx : Ok x) (hy : Ok y) : Ok (ls x y) := by
  unfold ls
  split
  · exact ok_0
  · exact ok_min hx.abs hy.abs
def Wrd.one : Wrd → Bool
  | .neg | .size => true
  | _ => false
def args {α : Type} (w : Wrd) (x y : α) : List α := if Wrd.one w = true then [x] else [x, y]
theorem args_0 (w : Wrd) (x y : PV) (S : Sto) : fIx (.tup (args w x y)) (.int 0) S = .ok x S := by cases w <;> rfl
theorem args_l0 (w : Wrd) (x y : PV) (S : Sto) : fIx (.nl (args w x y)) (.int 0) S = .ok x S := by cases w <;> rfl
end G58
end
section
set_option Elab.async false
set_option linter.all false
set_option maxRecDepth 100000
set_option maxHeartbeats 4000000
namespace G58
open PySem PySem.Spec PyProof.Rows L2 Mi Ra
/-! ### holds by words -/
/-- what the ends need to be short -/
def enOk (w : Wrd) (h g : Hd) : Prop := Ok (w.ex h.lo g.lo) ∧ Ok (w.ex h.lo g.hi) ∧ Ok (w.ex h.hi g.lo) ∧ Ok (w.ex h.hi g.hi)
def spOk : Wrd → Hd → Hd → Prop
  | .mul, h, g => Ok (mx h.lo h.hi * g.off) ∧ Ok (mx g.lo g.hi * h.off) ∧ Ok (mx h.lo h.hi * g.off + mx g.lo g.hi * h.off) ∧ Ok (h.off * g.off) ∧ Ok (mx h.lo h.hi * g.off + mx g.lo g.hi * h.off + h.off * g.off)
  | .div, h, g => Ok (mx h.lo h.hi * g.off) ∧ Ok (mx h.lo h.hi * g.off / ls g.lo g.hi) ∧ Ok (h.off + mx h.lo h.hi * g.off / ls g.lo g.hi) ∧ Ok (ls g.lo g.hi - g.off) ∧ Ok ((h.off + mx h.lo h.hi * g.off / ls g.lo g.hi) / (ls g.lo g.hi - g.off))
  | .add, h, g | .sub, h, g => Ok (h.off + g.off)
  | _, _, _ => True
def hlds (w : Wrd) (h g : Hd) : PV := .tup (args w (eH h) (eH g))
theorem hl_0 (w : Wrd) (h g : Hd) (S : Sto) : fIx (hlds w h g) (.int 0) S = .ok (eH h) S := args_0 w _ _ S
end G58
end
section
set_option Elab.async false
set_option linter.all false
set_option maxRecDepth 100000
set_option maxHeartbeats 4000000
namespace G58
open PySem PySem.Spec PyProof.Rows L2 Mi Ra
/-- all that a hold by a word needs to be short -/
structure HbOk (f : Fm) (y : Wy) (w : Wrd) (h g : Hd) : Prop where
  en : enOk w h g
  es : w = .sub → Ok (h.lo - g.hi) ∧ Ok (h.hi - g.lo)
  sp : spOk w h g
  lo : w.big = true → Ok (eLo w h g)
  hi : w.big = true → Ok (eHi w h g)
  s : w.big = true → Ok (spr w h g)
  m : w.big = true → Ok (mstR w h g)
  o : w.big = true → mstR w h g ≤ mostR f → Ok (offR f y (mstR w h g))
  t : w.big = true → mstR w h g ≤ mostR f → Ok (spr w h g + offR f y (mstR w h g))
def eHO : Option Hd → PV
  | none => .non
  | some h => eH h
end G58
end
section
set_option Elab.async false
set_option linter.all false
set_option maxRecDepth 100000
set_option maxHeartbeats 400000
namespace G58
open PySem PySem.Spec PyProof.Rows L2 Mi Ra
/-! the public ones -/
theorem isi_s (s : Str) (S : Sto) : fIsi [.str s, .ty "str"] S = .ok (.bl true) S := rfl
theorem isi_t (xs : List PV) (S : Sto) : fIsi [.tup xs, .ty "tuple"] S = .ok (.bl true) S := rfl
def nums (w : Wrd) (x z : Rat) : PV := .tup (args w (eQ x) (eQ z))
theorem all_nums {w : Wrd} {x z : Rat} {S : Sto} {a0 : Option PV} (hx : Ok x) (hz : Ok z) : dLc false (iSeq (dV 1)) (cNm 2) (dYes) (dCB F_is_fraction (dCons (dV 2) (dNil))) [2] [a0, some (nums w x z), none] S = .ok (.nl (args w (.bl true) (.bl true))) S := by
  have r1 := fun S => e_fraction (S := S) hx
  have r2 := fun S => e_fraction (S := S) hz
  have i : iSeq (dV 1) [a0, some (nums w x z), none] S = .ok (args w (eQ x) (eQ z)) S := by cases w <;> rfl
  have w1 : wipeP [a0, some (nums w x z), none] [2] = [a0, some (nums w x z), none] := rfl
  cases w <;> simp only [args, Wrd.one] at * <;> simp at i ⊢ <;> simp [dLc, lcP, i, w1, cNm, dYes, runF, startP, endOf, dRet, dRetN, dIf, dIfS, dB, dBin, dUn, dV, dC, sE, asB, dSeq, dSet, dPar, dPar3, dAsg, dExpr, dAnd, dOr, dNot, bAnd, bOr, bNot, dTru, dCB, dCons, dNil, dTup, dLst, dChain, dPass, fCmpI, fIsN, gTp, gsCons, gsNil, gNm, mkTup, dSl, dPart, dNoPart, lim, iLt, iLe, iGt, iGe, r1, r2, mkLst]
end G58
end
section
set_option Elab.async false
set_option linter.all false
set_option maxRecDepth 100000
set_option maxHeartbeats 1000000
namespace G58
open PySem PySem.Spec PyProof.Rows L2 Mi Ra

/-! ### the hand, and what is drawn of it -/
section
variable {S : Sto} {a b c d e x : PV} {ρ : EnP}
abbrev hT (S : Sto) (a b c d e : PV) : Sto := S.set 0 (SO.lst [a, b, c, d, e])
theorem hT_get (h : 0 < S.length) : (hT S a b c d e)[0]? = some (SO.lst [a, b, c, d, e]) := by rw [List.getElem?_set_self h]
theorem hT_set (y : SO) : (hT S a b c d e).set 0 y = S.set 0 y := by unfold hT; rw [List.set_set]
theorem seq_ref {n : Nat} {xs : List PV} {S : Sto} (h : S[n]? = some (SO.lst xs)) : seqOf (.ref n) S = some xs := by
  show (match S[n]? with | some (SO.lst xs) => some xs | _ => none) = _
  rw [h]
theorem ix_ref {n : Nat} {xs : List PV} {S : Sto} {i : Int} {y : PV} (h : S[n]? = some (SO.lst xs)) (e : atI xs i = some y) : fIx (.ref n) (.int i) S = .ok y S := by
  show (match seqOf (.ref n) S with | some xs => (match atI xs i with | some v => Res.ok v S | none => .bad) | none => .bad) = _
  rw [seq_ref h]
  simp only [e]
theorem ix0 (h : 0 < S.length) : fIx (.ref 0) (.int 0) (hT S a b c d e) = .ok a (hT S a b c d e) := ix_ref (hT_get h) rfl
theorem ix1 (h : 0 < S.length) : fIx (.ref 0) (.int 1) (hT S a b c d e) = .ok b (hT S a b c d e) := ix_ref (hT_get h) rfl
theorem ix2 (h : 0 < S.length) : fIx (.ref 0) (.int 2) (hT S a b c d e) = .ok c (hT S a b c d e) := ix_ref (hT_get h) rfl
theorem ix3 (h : 0 < S.length) : fIx (.ref 0) (.int 3) (hT S a b c d e) = .ok d (hT S a b c d e) := ix_ref (hT_get h) rfl
theorem ix4 (h : 0 < S.length) : fIx (.ref 0) (.int 4) (hT S a b c d e) = .ok e (hT S a b c d e) := ix_ref (hT_get h) rfl
theorem set_ref {n : Nat} {xs : List PV} {S : Sto} {i : Int} {j : Nat} (h : S[n]? = some (SO.lst xs)) (e : ixN xs.length i = some j) : setIx x ρ (.ref n) (.int i) S = .ok ρ (S.set n (SO.lst (xs.set j x))) := by
  show (match S[n]? with | some (SO.lst xs) => (match ixN xs.length i with | some j => Res.ok ρ (S.set n (SO.lst (xs.set j x))) | none => .bad) | _ => .bad) = _
  rw [h]
  simp only [e]
theorem st1 (h : 0 < S.length) : setIx x ρ (.ref 0) (.int 1) (hT S a b c d e) = .ok ρ (hT S a x c d e) := by rw [set_ref (hT_get h) (j := 1) rfl, hT_set]; rfl
theorem st2 (h : 0 < S.length) : setIx x ρ (.ref 0) (.int 2) (hT S a b c d e) = .ok ρ (hT S a b x d e) := by rw [set_ref (hT_get h) (j := 2) rfl, hT_set]; rfl
theorem st3 (h : 0 < S.length) : setIx x ρ (.ref 0) (.int 3) (hT S a b c d e) = .ok ρ (hT S a b c x e) := by rw [set_ref (hT_get h) (j := 3) rfl, hT_set]; rfl
theorem st4 (h : 0 < S.length) : setIx x ρ (.ref 0) (.int 4) (hT S a b c d e) = .ok ρ (hT S a b c d x) := by rw [set_ref (hT_get h) (j := 4) rfl, hT_set]; rfl
end
def cellsP (cs : List Int) : PV := .nl (cs.map .int)
theorem len_cells (cs : List Int) (S : Sto) : fLen [cellsP cs] S = .ok (.int cs.length) S := by
  show Res.ok (PV.int ((cs.map PV.int).length : Nat)) S = _
  rw [List.length_map]
theorem ix_cells {cs : List Int} {i : Int} {S : Sto} (h0 : 0 ≤ i) (h1 : i < cs.length) : ∃ y ∈ cs, fIx (cellsP cs) (.int i) S = .ok (.int y) S := by
  have hl : i.toNat < cs.length := by omega
  refine ⟨cs[i.toNat], List.getElem_mem hl, ?_⟩
  have e : atI (cs.map PV.int) i = some (.int cs[i.toNat]) := by
    unfold atI ixN
    rw [List.length_map, if_pos h0, if_pos h1]
    simp [hl]
  show (match atI (cs.map PV.int) i with | some v => Res.ok v S | none => .bad) = _
  rw [e]
theorem log2_mono {a b : Nat} (h : a ≤ b) : a.log2 ≤ b.log2 := by
  by_cases z : a = 0
  · rw [z]; exact Nat.zero_le _
  · rw [Nat.le_log2 (by omega)]
    exact Nat.le_trans (Nat.log2_self_le z) h
theorem log2_sm {a : Nat} (h : a ≤ 2 ^ 4000) : a.log2 ≤ 4000 := by
  by_cases z : a = 0
  · rw [z]; decide
  · have := (Nat.log2_lt z (k := 4001)).mpr (Nat.lt_of_le_of_lt h (by decide +kernel))
    omega
theorem mul_bg {i j : Int} {S : Sto} (h1 : i.natAbs.log2 ≤ 2000000) (h2 : j.natAbs ≤ 2 ^ 4000) : fMul false (.int i) (.int j) S = .ok (.int (i * j)) S := by
  have := log2_sm h2
  show (if i.natAbs.log2 + j.natAbs.log2 < 100000000 then Res.ok (PV.int (i * j)) S else .bad) = _
  rw [if_pos (by omega)]
structure HB (cs : List Int) (i v s c : Int) (b : Int) : Prop where
  cs : ∀ x ∈ cs, 0 ≤ x ∧ x.natAbs.log2 ≤ 2000000
  i : 0 ≤ i
  v0 : 0 ≤ v
  v1 : v.natAbs.log2 ≤ 2000000
  s0 : 0 ≤ s
  s1 : s < 2147483648
  c0 : 0 ≤ c
  c1 : c ≤ b
theorem pow_sm {i j : Int} {S : Sto} (h : 0 ≤ j ∧ j ≤ 1000000 ∧ i.natAbs < 2 ^ 64) : fPow (.int i) (.int j) S = .ok (.int (i ^ j.toNat)) S := by
  show (if 0 ≤ j ∧ j ≤ 1000000 ∧ i.natAbs < 2 ^ 64 then Res.ok (PV.int (i ^ j.toNat)) S else .bad) = _
  rw [if_pos h]
theorem p18 (S : Sto) : fPow (.int 10) (.int 18) S = .ok (.int 1000000000000000000) S := pow_sm (by decide)
theorem p36 (S : Sto) : fPow (.int 10) (.int 36) S = .ok (.int 1000000000000000000000000000000000000) S := pow_sm (by decide)
theorem big40 {i : Int} (h0 : 0 ≤ i) (h1 : i < 10 ^ 40) : i.natAbs ≤ 2 ^ 4000 := by
  have : (10 : Int) ^ 40 ≤ 2 ^ 4000 := by decide +kernel
  omega
def dA : EnP → Sto → SR := (dIfS (bAnd (dB (dBin (fEq false) (dBin fIx (dV 0) (dC (.int 2))) (dC (.int 0)))) (dB (dBin (fCmpI iLt) (dBin fIx (dV 0) (dC (.int 1))) (dCB fLen (dCons (dBin fIx (dV 0) (dC (.int 0))) (dNil)))))) (dSeq (dSet 2 (dBin fIx (dBin fIx (dV 0) (dC (.int 0))) (dBin fIx (dV 0) (dC (.int 1))))) (dSeq (dAsg (dBin (fAdd false) (dBin fIx (dV 0) (dC (.int 1))) (dC (.int 1))) (gIx (dV 0) (dC (.int 1)))) (dSeq (dAsg (dBin fMod (dCB fInt (dCons (dBin (fAdd false) (dBin (fAdd false) (dBin (fMul false) (dBin fIx (dV 0) (dC (.int 3))) (dC (.int 69621))) (dBin (fMul false) (dV 2) (dC (.int 40692)))) (dC (.int 23))) (dNil))) (dC (.int 2147483629))) (gIx (dV 0) (dC (.int 3)))) (dIfS (dB (dBin (fCmpI iGe) (dV 2) (dBin fPow (dC (.int 10)) (dC (.int 18))))) (dAsg (dV 2) (gIx (dV 0) (dC (.int 2)))) (dPass))))) (dPass))
def dBs : EnP → Sto → SR := (dIfS (dB (dBin (fCmpI iGt) (dBin fIx (dV 0) (dC (.int 2))) (dC (.int 0)))) (dSeq (dSet 3 (dBin fMod (dCB fInt (dCons (dBin fIx (dV 0) (dC (.int 2))) (dNil))) (dV 1))) (dSeq (dAsg (dBin fDiv (dBin fIx (dV 0) (dC (.int 2))) (dV 1)) (gIx (dV 0) (dC (.int 2)))) (dRet (dV 3)))) (dPass))
def dCs : EnP → Sto → SR := (dSeq (dAsg (dBin (fAdd false) (dBin fIx (dV 0) (dC (.int 4))) (dC (.int 1))) (gIx (dV 0) (dC (.int 4)))) (dSeq (dSet 4 (dBin fMod (dCB fInt (dCons (dBin (fMul false) (dCB fInt (dCons (dBin (fAdd false) (dBin fIx (dV 0) (dC (.int 3))) (dBin (fMul false) (dC (.int 7919)) (dBin fIx (dV 0) (dC (.int 4))))) (dNil))) (dC (.int 48271))) (dNil))) (dC (.int 2147483647)))) (dSeq (dSet 4 (dBin fMod (dCB fInt (dCons (dBin (fMul false) (dV 4) (dBin (fAdd false) (dBin fDiv (dV 4) (dC (.int 1009))) (dC (.int 69621)))) (dNil))) (dC (.int 2147483647)))) (dSeq (dSet 4 (dBin fMod (dCB fInt (dCons (dBin (fMul false) (dV 4) (dBin (fAdd false) (dBin fDiv (dV 4) (dC (.int 2003))) (dC (.int 40014)))) (dNil))) (dC (.int 2147483563)))) (dRet (dBin fMod (dCB fInt (dCons (dBin fDiv (dV 4) (dC (.int 16))) (dNil))) (dV 1)))))))
theorem d_draw : d_law_draw_L = dSeq dA (dSeq dBs dCs) := rfl
theorem fmod_pos {i m : Int} (hm : 0 < m) : 0 ≤ i.fmod m ∧ i.fmod m < m := by
  rw [Int.fmod_eq_emod_of_nonneg _ (by omega)]
  exact ⟨Int.emod_nonneg _ (by omega), Int.emod_lt_of_pos _ hm⟩
theorem draw_A {S : Sto} (hS : 0 < S.length) {cs : List Int} {i v s c b k : Int} (h : HB cs i v s c b) :
    ∃ x2 i' v' s', dA [some (.ref 0), some (.int k), none, none, none] (hT S (cellsP cs) (.int i) (.int v) (.int s) (.int c)) = .nx [some (.ref 0), some (.int k), x2, none, none] (hT S (cellsP cs) (.int i') (.int v') (.int s') (.int c)) ∧ HB cs i' v' s' c b := by
  by_cases c1 : v = 0
  · by_cases c2 : i < cs.length
    · obtain ⟨y, hy, ey⟩ := ix_cells (S := hT S (cellsP cs) (.int i) (.int v) (.int s) (.int c)) h.i c2
      obtain ⟨y0, y1⟩ := h.cs y hy
      have m1 : ∀ S, fMul false (.int s) (.int 69621) S = .ok (.int (s * 69621)) S := fun S => mul_sm (big40 h.s0 (Int.lt_trans h.s1 (by decide))) (by decide +kernel)
      have m2 : ∀ S, fMul false (.int y) (.int 40692) S = .ok (.int (y * 40692)) S := fun S => mul_bg y1 (by decide +kernel)
      have m3 : ∀ S j, fMod (.int j) (.int 2147483629) S = .ok (.int (j.fmod 2147483629)) S := fun S j => mod_sm (by decide)
      have f3 := fmod_pos (i := s * 69621 + y * 40692 + 23) (m := 2147483629) (by decide)
      subst c1
      by_cases c3 : (1000000000000000000 : Int) ≤ y
      · refine ⟨some (.int y), i + 1, y, (s * 69621 + y * 40692 + 23).fmod 2147483629, ?_, ⟨h.cs, by have := h.i; omega, y0, y1, f3.1, by omega, h.c0, h.c1⟩⟩
        simp [dA, runF, startP, endOf, dRet, dRetN, dIf, dIfS, dB, dBin, dUn, dV, dC, sE, asB, dSeq, dSet, dPar, dPar3, dAsg, dExpr, dAnd, dOr, dNot, bAnd, bOr, bNot, dTru, dCB, dCons, dNil, dTup, dLst, dChain, dPass, fCmpI, fIsN, gTp, gsCons, gsNil, gNm, mkTup, dSl, dPart, dNoPart, lim, iLt, iLe, iGt, iGe, ix0 hS, ix1 hS, ix2 hS, ix3 hS, len_cells, w_eq, c2, ey, gIx, st1 hS, st2 hS, st3 hS, w_add, m1, m2, m3, w_int, p18, c3]
      · refine ⟨some (.int y), i + 1, 0, (s * 69621 + y * 40692 + 23).fmod 2147483629, ?_, ⟨h.cs, by have := h.i; omega, by decide, by decide, f3.1, by omega, h.c0, h.c1⟩⟩
        simp [dA, runF, startP, endOf, dRet, dRetN, dIf, dIfS, dB, dBin, dUn, dV, dC, sE, asB, dSeq, dSet, dPar, dPar3, dAsg, dExpr, dAnd, dOr, dNot, bAnd, bOr, bNot, dTru, dCB, dCons, dNil, dTup, dLst, dChain, dPass, fCmpI, fIsN, gTp, gsCons, gsNil, gNm, mkTup, dSl, dPart, dNoPart, lim, iLt, iLe, iGt, iGe, ix0 hS, ix1 hS, ix2 hS, ix3 hS, len_cells, w_eq, c2, ey, gIx, st1 hS, st2 hS, st3 hS, w_add, m1, m2, m3, w_int, p18, c3]
    · refine ⟨none, i, v, s, ?_, h⟩
      subst c1
      simp [dA, runF, startP, endOf, dRet, dRetN, dIf, dIfS, dB, dBin, dUn, dV, dC, sE, asB, dSeq, dSet, dPar, dPar3, dAsg, dExpr, dAnd, dOr, dNot, bAnd, bOr, bNot, dTru, dCB, dCons, dNil, dTup, dLst, dChain, dPass, fCmpI, fIsN, gTp, gsCons, gsNil, gNm, mkTup, dSl, dPart, dNoPart, lim, iLt, iLe, iGt, iGe, ix0 hS, ix1 hS, ix2 hS, len_cells, w_eq, c2]
  · refine ⟨none, i, v, s, ?_, h⟩
    simp [dA, runF, startP, endOf, dRet, dRetN, dIf, dIfS, dB, dBin, dUn, dV, dC, sE, asB, dSeq, dSet, dPar, dPar3, dAsg, dExpr, dAnd, dOr, dNot, bAnd, bOr, bNot, dTru, dCB, dCons, dNil, dTup, dLst, dChain, dPass, fCmpI, fIsN, gTp, gsCons, gsNil, gNm, mkTup, dSl, dPart, dNoPart, lim, iLt, iLe, iGt, iGe, ix2 hS, w_eq, c1]
theorem fdiv_sm {v k : Int} (h0 : 0 ≤ v) (hk : 0 < k) : 0 ≤ v.fdiv k ∧ v.fdiv k ≤ v := by
  rw [Int.fdiv_eq_ediv_of_nonneg _ (by omega)]
  exact ⟨Int.ediv_nonneg h0 (by omega), Int.ediv_le_self _ h0⟩
theorem draw_B {S : Sto} (hS : 0 < S.length) {cs : List Int} {i v s c b k : Int} {x2 : Option PV} (hk : 0 < k) (hk2 : k ≤ 1000000000000000000000000000000) (h : HB cs i v s c b) :
    (0 < v ∧ ∃ d v', dBs [some (.ref 0), some (.int k), x2, none, none] (hT S (cellsP cs) (.int i) (.int v) (.int s) (.int c)) = .rt (.int d) (hT S (cellsP cs) (.int i) (.int v') (.int s) (.int c)) ∧ 0 ≤ d ∧ d < k ∧ HB cs i v' s c b) ∨
    (v = 0 ∧ dBs [some (.ref 0), some (.int k), x2, none, none] (hT S (cellsP cs) (.int i) (.int v) (.int s) (.int c)) = .nx [some (.ref 0), some (.int k), x2, none, none] (hT S (cellsP cs) (.int i) (.int v) (.int s) (.int c))) := by
  have m : ∀ S, fMod (.int v) (.int k) S = .ok (.int (v.fmod k)) S := fun S => mod_sm hk
  have d : ∀ S, fDiv (.int v) (.int k) S = .ok (.int (v.fdiv k)) S := fun S => div_sm hk (Nat.le_trans (show k.natAbs ≤ 1000000000000000000000000000000 by omega) (by decide +kernel))
  by_cases hv : 0 < v
  · refine .inl ⟨hv, v.fmod k, v.fdiv k, ?_, (fmod_pos hk).1, (fmod_pos hk).2, ⟨h.cs, h.i, (fdiv_sm h.v0 hk).1, Nat.le_trans (log2_mono (by have := fdiv_sm h.v0 hk; omega)) h.v1, h.s0, h.s1, h.c0, h.c1⟩⟩
    simp [dBs, runF, startP, endOf, dRet, dRetN, dIf, dIfS, dB, dBin, dUn, dV, dC, sE, asB, dSeq, dSet, dPar, dPar3, dAsg, dExpr, dAnd, dOr, dNot, bAnd, bOr, bNot, dTru, dCB, dCons, dNil, dTup, dLst, dChain, dPass, fCmpI, fIsN, gTp, gsCons, gsNil, gNm, mkTup, dSl, dPart, dNoPart, lim, iLt, iLe, iGt, iGe, ix2 hS, hv, w_int, m, d, gIx, st2 hS]
  · have e : v = 0 := by have := h.v0; omega
    refine .inr ⟨e, ?_⟩
    simp [dBs, runF, startP, endOf, dRet, dRetN, dIf, dIfS, dB, dBin, dUn, dV, dC, sE, asB, dSeq, dSet, dPar, dPar3, dAsg, dExpr, dAnd, dOr, dNot, bAnd, bOr, bNot, dTru, dCB, dCons, dNil, dTup, dLst, dChain, dPass, fCmpI, fIsN, gTp, gsCons, gsNil, gNm, mkTup, dSl, dPart, dNoPart, lim, iLt, iLe, iGt, iGe, ix2 hS, e]
theorem draw_C {S : Sto} (hS : 0 < S.length) {cs : List Int} {i v s c b k : Int} {x2 : Option PV} (hk : 0 < k) (hb : b ≤ 1000000000) (h : HB cs i v s c b) :
    ∃ d, endOf (dCs [some (.ref 0), some (.int k), x2, none, none] (hT S (cellsP cs) (.int i) (.int v) (.int s) (.int c))) = .ok (.int d) (hT S (cellsP cs) (.int i) (.int v) (.int s) (.int (c + 1))) ∧ 0 ≤ d ∧ d < k ∧ HB cs i v s (c + 1) (b + 1) := by
  have hc := h.c0
  have hc1 := h.c1
  have hs0 := h.s0
  have hs1 := h.s1
  have m1 : ∀ S, fMul false (.int 7919) (.int (c + 1)) S = .ok (.int (7919 * (c + 1))) S := fun S => mul_sm (by decide +kernel) (big40 (by omega) (by omega))
  have m2 : ∀ S, fMul false (.int (s + 7919 * (c + 1))) (.int 48271) S = .ok (.int ((s + 7919 * (c + 1)) * 48271)) S := fun S => mul_sm (big40 (by omega) (by omega)) (by decide +kernel)
  have md : ∀ (S : Sto) (j m : Int), 0 < m → fMod (.int j) (.int m) S = .ok (.int (j.fmod m)) S := fun S j m hm => mod_sm hm
  obtain ⟨a0, a1⟩ := fmod_pos (i := (s + 7919 * (c + 1)) * 48271) (m := 2147483647) (by decide)
  generalize hx : ((s + 7919 * (c + 1)) * 48271).fmod 2147483647 = x at a0 a1
  have dd : ∀ (S : Sto) (j m : Int), 0 < m → m ≤ 1000000 → fDiv (.int j) (.int m) S = .ok (.int (j.fdiv m)) S := fun S j m h1 h2 => div_sm h1 (big40 (by omega) (by omega))
  have x0 := fdiv_sm a0 (k := 1009) (by decide)
  have m3 : ∀ S, fMul false (.int x) (.int (x.fdiv 1009 + 69621)) S = .ok (.int (x * (x.fdiv 1009 + 69621))) S := fun S => mul_sm (big40 a0 (by omega)) (big40 (by omega) (by omega))
  obtain ⟨b0, b1⟩ := fmod_pos (i := x * (x.fdiv 1009 + 69621)) (m := 2147483647) (by decide)
  generalize hy : (x * (x.fdiv 1009 + 69621)).fmod 2147483647 = y at b0 b1
  have y0 := fdiv_sm b0 (k := 2003) (by decide)
  have m4 : ∀ S, fMul false (.int y) (.int (y.fdiv 2003 + 40014)) S = .ok (.int (y * (y.fdiv 2003 + 40014))) S := fun S => mul_sm (big40 b0 (by omega)) (big40 (by omega) (by omega))
  obtain ⟨c0, c1⟩ := fmod_pos (i := y * (y.fdiv 2003 + 40014)) (m := 2147483563) (by decide)
  generalize hz : (y * (y.fdiv 2003 + 40014)).fmod 2147483563 = z at c0 c1
  refine ⟨(z.fdiv 16).fmod k, ?_, (fmod_pos hk).1, (fmod_pos hk).2, ⟨h.cs, h.i, h.v0, h.v1, h.s0, h.s1, by omega, by omega⟩⟩
  have q1 := fun S => md S ((s + 7919 * (c + 1)) * 48271) 2147483647 (by decide)
  rw [hx] at q1
  have q2 := fun S => md S (x * (x.fdiv 1009 + 69621)) 2147483647 (by decide)
  rw [hy] at q2
  have q3 := fun S => md S (y * (y.fdiv 2003 + 40014)) 2147483563 (by decide)
  rw [hz] at q3
  have q4 := fun S => md S (z.fdiv 16) k hk
  have r1 := fun S => dd S x 1009 (by decide) (by decide)
  have r2 := fun S => dd S y 2003 (by decide) (by decide)
  have r3 := fun S => dd S z 16 (by decide) (by decide)
  simp [dCs, runF, startP, endOf, dRet, dRetN, dIf, dIfS, dB, dBin, dUn, dV, dC, sE, asB, dSeq, dSet, dPar, dPar3, dAsg, dExpr, dAnd, dOr, dNot, bAnd, bOr, bNot, dTru, dCB, dCons, dNil, dTup, dLst, dChain, dPass, fCmpI, fIsN, gTp, gsCons, gsNil, gNm, mkTup, dSl, dPart, dNoPart, lim, iLt, iLe, iGt, iGe, ix3 hS, ix4 hS, gIx, st4 hS, w_add, m1, m2, m3, m4, q1, q2, q3, q4, r1, r2, r3, w_int]
/-- the hand stands in the store -/
def Hk (b : Int) (S : Sto) : Prop := ∃ cs i v s c, S[0]? = some (SO.lst [cellsP cs, .int i, .int v, .int s, .int c]) ∧ HB cs i v s c b
theorem Hk.mono {b b' : Int} {S : Sto} (h : Hk b S) (hb : b ≤ b') : Hk b' S := by
  obtain ⟨cs, i, v, s, c, e, k⟩ := h
  exact ⟨cs, i, v, s, c, e, ⟨k.cs, k.i, k.v0, k.v1, k.s0, k.s1, k.c0, by have := k.c1; omega⟩⟩
theorem Hk.more {b : Int} {S : Sto} (h : Hk b S) (l : List SO) : Hk b (S ++ l) := by
  obtain ⟨cs, i, v, s, c, e, k⟩ := h
  exact ⟨cs, i, v, s, c, by rw [List.getElem?_append_left (List.getElem?_eq_some_iff.mp e).1]; exact e, k⟩
theorem hT_self {S : Sto} {a b c d e : PV} (h : S[0]? = some (SO.lst [a, b, c, d, e])) : S = hT S a b c d e := by
  unfold hT
  cases S with
  | nil => cases h
  | cons x r =>
    simp at h
    rw [h]
    rfl
theorem e_draw {b k : Int} {S : Sto} (h : Hk b S) (hk : 0 < k) (hk2 : k ≤ 1000000000000000000000000000000) (hb : b ≤ 1000000000) : ∃ d S', F_law_draw_L [.ref 0, .int k] S = .ok (.int d) S' ∧ 0 ≤ d ∧ d < k ∧ Hk (b + 1) S' := by
  obtain ⟨cs, i, v, s, c, e, q⟩ := h
  have hS : 0 < S.length := (List.getElem?_eq_some_iff.mp e).1
  rw [hT_self e]
  obtain ⟨x2, i', v', s', hA, q'⟩ := draw_A (k := k) hS q
  have at_ : ∀ {i v s c : Int} {b' : Int}, HB cs i v s c b' → Hk b' (hT S (cellsP cs) (.int i) (.int v) (.int s) (.int c)) := fun {i v s c b'} q => ⟨cs, i, v, s, c, hT_get hS, q⟩
  have step : F_law_draw_L [.ref 0, .int k] (hT S (cellsP cs) (.int i) (.int v) (.int s) (.int c)) = endOf (match dA [some (.ref 0), some (.int k), none, none, none] (hT S (cellsP cs) (.int i) (.int v) (.int s) (.int c)) with
    | .nx ρ' S' => (match dBs ρ' S' with | .nx ρ' S' => dCs ρ' S' | r => r)
    | r => r) := rfl
  rw [step, hA]
  simp only
  rcases draw_B (x2 := x2) hS hk hk2 q' with ⟨_, d, v2, hB, d0, d1, q2⟩ | ⟨_, hB⟩
  · rw [hB]
    exact ⟨d, _, rfl, d0, d1, (at_ q2).mono (by omega)⟩
  · rw [hB]
    obtain ⟨d, hC, d0, d1, q3⟩ := draw_C (x2 := x2) hS hk hb q'
    simp only
    rw [hC]
    exact ⟨d, _, rfl, d0, d1, at_ q3⟩
theorem len_nl {xs : List PV} {S : Sto} : fLen [.nl xs] S = .ok (.int xs.length) S := rfl
theorem lcP_draw {α β γ : Type} {f : PV → EnP → Option EnP} {de : EnP → Sto → Res PV} {ρ : EnP} (enc : α → PV) (e : β → PV) (P : α → Prop) (Q : β → Prop) (key : β → γ) (key' : α → γ) (k : Nat)
    (h : ∀ (x : α) (S : Sto) (b : Int), P x → Hk b S → b ≤ 999990000 → ∃ ρ1 y S', f (enc x) ρ = some ρ1 ∧ de ρ1 S = .ok (e y) S' ∧ Q y ∧ key y = key' x ∧ Hk (b + k) S') :
    ∀ (xs : List α) (acc : List PV) (S : Sto) (b : Int), (∀ x ∈ xs, P x) → Hk b S → b + k * xs.length ≤ 999990000 → acc.length + xs.length ≤ 1000 →
      ∃ (ys : List β) (S' : Sto), lcP f dYes de ρ (xs.map enc) acc S = .ok (acc ++ ys.map e) S' ∧ (∀ y ∈ ys, Q y) ∧ ys.map key = xs.map key' ∧ Hk (b + k * xs.length) S'
  | [], acc, S, b, _, hS, _, _ => ⟨[], S, by simp [lcP], by simp, rfl, by simpa using hS⟩
  | x :: xs, acc, S, b, hP, hS, hb, hl => by
    rw [List.length_cons] at hb hl
    have e0 : (k : Int) * ((xs.length + 1 : Nat) : Int) = k * xs.length + k := by rw [Int.natCast_add, Int.mul_add]; simp
    rw [e0] at hb
    have kn : 0 ≤ (k : Int) * (xs.length : Int) := Int.mul_nonneg (by omega) (by omega)
    obtain ⟨ρ1, y, S1, e1, e2, q, ky, h1⟩ := h x S b (hP x List.mem_cons_self) hS (by omega)
    obtain ⟨ys, S2, e3, q3, k3, h3⟩ := lcP_draw enc e P Q key key' k h xs (acc ++ [e y]) S1 (b + k) (fun z hz => hP z (List.mem_cons_of_mem _ hz)) h1 (by omega) (by simp; omega)
    refine ⟨y :: ys, S2, ?_, ?_, ?_, ?_⟩
    · rw [List.map_cons, lcP]
      simp only [e1, dYes, e2]
      rw [if_pos (by unfold lim; omega), e3]
      simp
    · intro z hz
      rcases List.mem_cons.mp hz with rfl | hz
      · exact q
      · exact q3 z hz
    · rw [List.map_cons, List.map_cons, ky, k3]
    · rw [List.length_cons, e0]
      have : b + (k * xs.length + k) = b + k + k * xs.length := by omega
      rw [this]
      exact h3
theorem upTo_map (n : Nat) : Mi.upTo 0 n = (List.range n).map fun (i : Nat) => PV.int (i : Int) := by
  unfold Mi.upTo
  congr 1
  funext i
  simp
theorem e_any {b : Int} {S : Sto} {xs : List PV} (h : Hk b S) (hb : b ≤ 999999000) (hx : 0 < xs.length) (hx2 : xs.length ≤ 1000) : ∃ y ∈ xs, ∃ S', F_law_any_L [.ref 0, .nl xs] S = .ok y S' ∧ Hk (b + 1) S' := by
  obtain ⟨d, S1, e1, a1, b1, k1⟩ := e_draw (k := xs.length) h (by omega) (by omega) (by omega)
  have hl : d.toNat < xs.length := by omega
  refine ⟨xs[d.toNat], List.getElem_mem hl, S1, ?_, k1⟩
  have e : atI xs d = some xs[d.toNat] := by
    unfold atI ixN
    rw [if_pos a1, if_pos (by omega)]
    simp [hl]
  have e2 : fIx (.nl xs) (.int d) S1 = .ok xs[d.toNat] S1 := by
    show (match atI xs d with | some v => Res.ok v S1 | none => .bad) = _
    rw [e]
  simp [F_law_any_L, d_law_any_L, runF, startP, endOf, dRet, dRetN, dIf, dIfS, dB, dBin, dUn, dV, dC, sE, asB, dSeq, dSet, dPar, dPar3, dAsg, dExpr, dAnd, dOr, dNot, bAnd, bOr, bNot, dTru, dCB, dCons, dNil, dTup, dLst, dChain, dPass, fCmpI, fIsN, gTp, gsCons, gsNil, gNm, mkTup, dSl, dPart, dNoPart, lim, iLt, iLe, iGt, iGe, len_nl, e1, e2]
end G58
end
section
set_option Elab.async false
set_option linter.all false
set_option maxRecDepth 100000
set_option maxHeartbeats 1000000
namespace G58
open PySem PySem.Spec PyProof.Rows L2 Mi Ra
theorem cut63 {xs : List PV} (h : xs.length ≤ 63) : cutP xs none (some 63) = xs := by
  unfold cutP
  have a : HT.sIx xs.length 0 none = 0 := rfl
  have b : HT.sIx xs.length xs.length (some 63) = min 63 xs.length := HT.sIx_nat _ _ 63
  rw [a, b, List.drop_zero, Nat.sub_zero, Nat.min_eq_right h, List.take_length]
theorem e_hand {ns : List Int} (h : ns.length ≤ 63) (hb : ∀ z ∈ ns, Builtin.Int.intBits z ≤ 1048576) : ∃ S', F_law_hand_L [.fl (ns.map .int)] [] = .ok (.ref 0) S' ∧ Hk 0 S' := by
  have e0 : iSeq (dSl false (dV 0) (dNoPart) (dPart (dC (.int 63)))) [some (.fl (ns.map .int)), none, none] [] = .ok (ns.map PV.int) [] := by
    have c : fSl false (.fl (ns.map PV.int)) none (some 63) [] = .ok (.nl (ns.map PV.int)) [] := by
      show mkLst false (cutP (ns.map PV.int) none (some 63)) [] = _
      rw [cut63 (by simpa using h)]
      unfold mkLst
      rw [if_pos (by simp [lim]; omega)]
      rfl
    simp [iSeq, runF, startP, endOf, dRet, dRetN, dIf, dIfS, dB, dBin, dUn, dV, dC, sE, asB, dSeq, dSet, dPar, dPar3, dAsg, dExpr, dAnd, dOr, dNot, bAnd, bOr, bNot, dTru, dCB, dCons, dNil, dTup, dLst, dChain, dPass, fCmpI, fIsN, gTp, gsCons, gsNil, gNm, mkTup, dSl, dPart, dNoPart, lim, iLt, iLe, iGt, iGe, c]
    try rfl
  have pw : ∀ S, fPow (.int 10) (.int 36) S = .ok (.int (10 ^ 36)) S := fun S => pow_sm (by decide)
  have lc := dLc_map (f := cNm 2) (de := dBin fMod (dCB fInt (dCons (dCB fAbs (dCons (dCB fInt (dCons (dV 2) (dNil))) (dNil))) (dNil))) (dBin fPow (dC (.int 10)) (dC (.int 36)))) (ρ := [some (.fl (ns.map .int)), none, none]) (vs := [2]) PV.int (fun i => PV.int (Int.fmod (if i < 0 then -i else i) (10 ^ 36))) (fun _ => True) e0 (fun x _ => ⟨_, rfl, fun S => by
    show (((Res.ok (PV.int (if x < 0 then -x else x)) S).bind fun a S1 => ((fPow (.int 10) (.int 36) S1).bind fun b S2 => fMod a b S2))) = _
    rw [Res.bind_ok, pw, Res.bind_ok]
    show (if ((10 : Int) ^ 36) ≠ 0 then Res.ok (PV.int (Int.fmod (if x < 0 then -x else x) (10 ^ 36))) S else .bad) = _
    rw [if_pos (by decide)]⟩) (fun _ _ => trivial) (by unfold lim; omega)
  have m5 : ∀ S, fMul false (.int 7) (.int (ns.length : Int)) S = .ok (.int (7 * (ns.length : Int))) S := fun S => mul_sm (by decide +kernel) (big40 (by omega) (by omega))
  refine ⟨[SO.lst [cellsP (ns.map fun i => Int.fmod (if i < 0 then -i else i) (10 ^ 36)), .int 0, .int 0, .int (2273 + 7 * (ns.length : Int)), .int 0]], ?_, _, 0, 0, _, 0, rfl, ⟨?_, by omega, by omega, by decide, by omega, by omega, by omega, by omega⟩⟩
  · have c : (ns.map fun i => PV.int (Int.fmod (if i < 0 then -i else i) (10 ^ 36))) = (ns.map fun i => Int.fmod (if i < 0 then -i else i) (10 ^ 36)).map PV.int := by rw [List.map_map]; rfl
    rw [c] at lc
    have ln : ∀ S, fLen [PV.nl ((ns.map fun i => Int.fmod (if i < 0 then -i else i) (10 ^ 36)).map PV.int)] S = .ok (.int (ns.length : Int)) S := fun S => by rw [len_nl]; simp
    unfold cellsP
    generalize ((ns.map fun i => Int.fmod (if i < 0 then -i else i) (10 ^ 36)).map PV.int) = cc at lc ln
    simp [F_law_hand_L, d_law_hand_L, runF, startP, endOf, dRet, dRetN, dIf, dIfS, dB, dBin, dUn, dV, dC, sE, asB, dSeq, dSet, dPar, dPar3, dAsg, dExpr, dAnd, dOr, dNot, bAnd, bOr, bNot, dTru, dCB, dCons, dNil, dTup, dLst, dChain, dPass, fCmpI, fIsN, gTp, gsCons, gsNil, gNm, mkTup, dSl, dPart, dNoPart, lim, iLt, iLe, iGt, iGe, lc, ln, m5, w_add, mkLst]
  · intro x hx
    obtain ⟨i, _, rfl⟩ := List.mem_map.mp hx
    have q := fmod_pos (i := if i < 0 then -i else i) (m := (10 : Int) ^ 36) (by decide)
    have s : ((if i < 0 then -i else i).fmod (10 ^ 36)).natAbs ≤ 2 ^ 4000 := big40 q.1 (Int.lt_trans q.2 (by decide))
    have := log2_sm s
    exact ⟨q.1, by omega⟩
end G58
end
section
set_option Elab.async false
set_option linter.all false
set_option maxRecDepth 100000
set_option maxHeartbeats 4000000
set_option exponentiation.threshold 5000
namespace G58
open PySem PySem.Spec PyProof.Rows L2 Mi Ra Tx
/-! ### runs of figures -/
def runC : EnP → Sto → Res Bool := (bAnd (dB (dBin (fCmpI iLt) (dBin (fAdd false) (dV 1) (dV 2)) (dCB fLen (dCons (dV 0) (dNil))))) (dB (dBin (fInS false) (dBin fIx (dV 0) (dBin (fAdd false) (dV 1) (dV 2))) (dC (.str c_FIGURES)))))
def runB : EnP → Sto → SR := (dAug 2 fAddI (dC (.int 1)))
theorem lit_1 (S : Sto) (c : Nat) : fInS false (tS [c]) (.str c_FIGURES) S = .ok (.bl (isD c)) S := tin c S
theorem run_loop {l : List Nat} (hl : l.length ≤ 1000) (i : Nat) : ∀ (f k : Nat) (S : Sto), rn (l.drop (i + k)) < f → i + k ≤ l.length →
    whileP runC runB f [some (tS l), some (.int i), some (.int k)] S = .nx [some (tS l), some (.int i), some (.int ((k + rn (l.drop (i + k)) : Nat) : Int))] S := by
  intro f
  induction f with
  | zero => intro k S h; omega
  | succ f ih =>
    intro k S h hk
    have ln := fun S => tlen (l := l) (S := S) hl
    have ad : ∀ S, fAdd false (.int (i : Int)) (.int (k : Int)) S = .ok (.int ((i + k : Nat) : Int)) S := fun S => by rw [w_add, Int.natCast_add]
    rw [whileP]
    by_cases lt : i + k < l.length
    · have x := fun S => tix (S := S) lt hl
      have lt' : ((i + k : Nat) : Int) < (l.length : Int) := by omega
      generalize hik : ((i + k : Nat) : Int) = ik at ad x lt'
      have c : runC [some (tS l), some (.int i), some (.int k)] S = .ok (isD l[i + k]) S := by
        simp [runC, runF, startP, endOf, dRet, dRetN, dIf, dIfS, dB, dBin, dUn, dV, dC, sE, asB, dSeq, dSet, dPar, dPar3, dAsg, dExpr, dAnd, dOr, dNot, bAnd, bOr, bNot, dTru, dCB, dCons, dNil, dTup, dLst, dChain, dPass, fCmpI, fIsN, gTp, gsCons, gsNil, gNm, mkTup, dSl, dPart, dNoPart, lim, iLt, iLe, iGt, iGe, ad, ln, lt', x, lit_1]
      rw [c]
      cases d : isD l[i + k] with
      | true =>
        have e := rn_step lt d
        have b : runB [some (tS l), some (.int i), some (.int k)] S = .nx [some (tS l), some (.int i), some (.int ((k + 1 : Nat) : Int))] S := by
          simp [runB, dAug, fAddI, runF, startP, endOf, dRet, dRetN, dIf, dIfS, dB, dBin, dUn, dV, dC, sE, asB, dSeq, dSet, dPar, dPar3, dAsg, dExpr, dAnd, dOr, dNot, bAnd, bOr, bNot, dTru, dCB, dCons, dNil, dTup, dLst, dChain, dPass, fCmpI, fIsN, gTp, gsCons, gsNil, gNm, mkTup, dSl, dPart, dNoPart, lim, iLt, iLe, iGt, iGe]
        simp only [sE, b, if_true]
        rw [ih (k + 1) S (by rw [show i + (k + 1) = i + k + 1 from rfl]; omega) (by omega)]
        rw [show i + (k + 1) = i + k + 1 from rfl, e, show k + 1 + rn (l.drop (i + k + 1)) = k + (rn (l.drop (i + k + 1)) + 1) from by omega]
      | false =>
        have e := rn_none lt d
        simp only [sE, Bool.false_eq_true, if_false, e, Nat.add_zero]
    · have e := rn_end (l := l) (i := i + k) (by omega)
      have lt' : ¬ ((i + k : Nat) : Int) < (l.length : Int) := by omega
      generalize hik : ((i + k : Nat) : Int) = ik at ad lt'
      have c : runC [some (tS l), some (.int i), some (.int k)] S = .ok false S := by
        simp [runC, runF, startP, endOf, dRet, dRetN, dIf, dIfS, dB, dBin, dUn, dV, dC, sE, asB, dSeq, dSet, dPar, dPar3, dAsg, dExpr, dAnd, dOr, dNot, bAnd, bOr, bNot, dTru, dCB, dCons, dNil, dTup, dLst, dChain, dPass, fCmpI, fIsN, gTp, gsCons, gsNil, gNm, mkTup, dSl, dPart, dNoPart, lim, iLt, iLe, iGt, iGe, ad, ln, lt']
      rw [c]
      simp only [sE, Bool.false_eq_true, if_false, e, Nat.add_zero]
theorem big_fuel {n : Nat} (h : n ≤ 1000) : n < fuel := Nat.lt_of_le_of_lt h (by decide +kernel)
theorem e_run {l : List Nat} {i : Nat} {S : Sto} (hl : l.length ≤ 1000) (hi : i ≤ l.length) : F_run_of [tS l, .int (i : Nat)] S = .ok (.int (rn (l.drop i) : Nat)) S := by
  have lp := run_loop hl i fuel 0 S (big_fuel (Nat.le_trans (rn_le' l (i + 0)) (by omega))) (by omega)
  rw [Nat.add_zero, Nat.zero_add] at lp
  have dd : d_run_of = dSeq (dSet 2 (dC (.int 0))) (dSeq (whileP runC runB fuel) (dRet (dV 2))) := rfl
  have e0 : F_run_of [tS l, .int (i : Nat)] S = endOf (d_run_of [some (tS l), some (.int (i : Nat)), none] S) := rfl
  have s0 : (dSet 2 (dC (.int 0))) [some (tS l), some (.int (i : Nat)), none] S = .nx [some (tS l), some (.int (i : Nat)), some (.int ((0 : Nat) : Int))] S := rfl
  rw [e0, dd]
  simp only [dSeq, s0, lp]
  rfl
end G58
end
section
set_option Elab.async false
set_option linter.all false
set_option maxRecDepth 100000
set_option maxHeartbeats 4000000
set_option exponentiation.threshold 5000
namespace G58
open PySem PySem.Spec PyProof.Rows L2 Mi Ra Tx
theorem lit_m : (.str c_MINUS : PV) = tS [45] := by kernel_rfl
theorem lit_p : (.str c_POINT : PV) = tS [46] := by kernel_rfl
theorem lit_e : (.str c_POWER : PV) = tS [101] := by kernel_rfl
theorem as1 {c : Nat} (h : c < 128) : AS [c] := fun d hd => by
  have : d = c := by simpa using hd
  omega
theorem is_m {l : List Nat} (as : AS l) {i : Nat} (h : i < l.length) (S : Sto) : fEq false (tS [l[i]]) (.str c_MINUS) S = .ok (.bl (decide (l[i]? = some 45))) S := by
  rw [lit_m, teq false (as.at_ h) (as1 (by decide)), List.getElem?_eq_getElem h]
  simp
theorem is_p {l : List Nat} (as : AS l) {i : Nat} (h : i < l.length) (S : Sto) : fEq false (tS [l[i]]) (.str c_POINT) S = .ok (.bl (decide (l[i]? = some 46))) S := by
  rw [lit_p, teq false (as.at_ h) (as1 (by decide)), List.getElem?_eq_getElem h]
  simp
theorem is_e {l : List Nat} (as : AS l) {i : Nat} (h : i < l.length) (S : Sto) : fEq true (tS [l[i]]) (.str c_POWER) S = .ok (.bl (!decide (l[i]? = some 101))) S := by
  rw [lit_e, teq true (as.at_ h) (as1 (by decide)), List.getElem?_eq_getElem h]
  simp
def exB (i : Nat) (S : Sto) : Res PV := .exc "BadText" [("place", .int (i : Nat))] S
def pxR (S : Sto) : PE → Res PV
  | .bad i => exB i S
  | .ok e => .ok (.int e) S
theorem e_expo {l : List Nat} (as : AS l) (hl : l.length ≤ 600) {p : Nat} (hp : p ≤ l.length) (S : Sto) : F_power_read [tS l, .int (p : Nat)] S = pxR S (expo l p) := by
  have hl' : l.length ≤ 1000 := by omega
  have ln := fun S => tlen (l := l) (S := S) hl'
  -- the sign
  have st : ∃ h : Nat, h = (if decide (l[p]? = some 45) = true then p + 1 else p) ∧ h ≤ l.length ∧
      (dIfS (bAnd (dB (dBin (fCmpI iLt) (dV 3) (dCB fLen (dCons (dV 0) (dNil))))) (dB (dBin (fEq false) (dBin fIx (dV 0) (dV 3)) (dC (.str c_MINUS))))) (dPar 2 3 (dCons (dUn fNeg (dC (.int 1))) (dCons (dBin (fAdd false) (dV 3) (dC (.int 1))) (dNil)))) (dPass)) [some (tS l), some (.int (p : Nat)), some (.int 1), some (.int (p : Nat)), none] S = .nx [some (tS l), some (.int (p : Nat)), some (.int (sgn (decide (l[p]? = some 45)) 1)), some (.int (h : Nat)), none] S := by
    by_cases lt : p < l.length
    · have x := fun S => tix (S := S) lt hl'
      have m := is_m as lt
      have lt' : (p : Int) < (l.length : Int) := by omega
      cases c : decide (l[p]? = some 45) with
      | true =>
        rw [c] at m
        refine ⟨p + 1, by simp, by omega, ?_⟩
        simp [runF, startP, endOf, dRet, dRetN, dIf, dIfS, dB, dBin, dUn, dV, dC, sE, asB, dSeq, dSet, dPar, dPar3, dAsg, dExpr, dAnd, dOr, dNot, bAnd, bOr, bNot, dTru, dCB, dCons, dNil, dTup, dLst, dChain, dPass, fCmpI, fIsN, gTp, gsCons, gsNil, gNm, mkTup, dSl, dPart, dNoPart, lim, iLt, iLe, iGt, iGe, ln, lt', x, m, w_neg, w_add, sgn]
      | false =>
        rw [c] at m
        refine ⟨p, by simp, by omega, ?_⟩
        simp [runF, startP, endOf, dRet, dRetN, dIf, dIfS, dB, dBin, dUn, dV, dC, sE, asB, dSeq, dSet, dPar, dPar3, dAsg, dExpr, dAnd, dOr, dNot, bAnd, bOr, bNot, dTru, dCB, dCons, dNil, dTup, dLst, dChain, dPass, fCmpI, fIsN, gTp, gsCons, gsNil, gNm, mkTup, dSl, dPart, dNoPart, lim, iLt, iLe, iGt, iGe, ln, lt', x, m, sgn]
    · have lt' : ¬ (p : Int) < (l.length : Int) := by omega
      have c : decide (l[p]? = some 45) = false := by rw [List.getElem?_eq_none (by omega)]; rfl
      rw [c]
      refine ⟨p, by simp, by omega, ?_⟩
      simp [runF, startP, endOf, dRet, dRetN, dIf, dIfS, dB, dBin, dUn, dV, dC, sE, asB, dSeq, dSet, dPar, dPar3, dAsg, dExpr, dAnd, dOr, dNot, bAnd, bOr, bNot, dTru, dCB, dCons, dNil, dTup, dLst, dChain, dPass, fCmpI, fIsN, gTp, gsCons, gsNil, gNm, mkTup, dSl, dPart, dNoPart, lim, iLt, iLe, iGt, iGe, ln, lt', sgn]
  obtain ⟨h, eh, hh, s1⟩ := st
  have rn_ := fun S => e_run (l := l) (i := h) (S := S) hl' hh
  have e0 : F_power_read [tS l, .int (p : Nat)] S = endOf (d_power_read [some (tS l), some (.int (p : Nat)), none, none, none] S) := rfl
  have s0 : (dPar 2 3 (dCons (dC (.int 1)) (dCons (dV 1) (dNil)))) [some (tS l), some (.int (p : Nat)), none, none, none] S = .nx [some (tS l), some (.int (p : Nat)), some (.int 1), some (.int (p : Nat)), none] S := rfl
  unfold expo
  simp only [← eh]
  rw [e0, d_power_read]
  simp only [dSeq, s0, s1]
  clear s0 s1 e0
  generalize hm : rn (l.drop h) = m at *
  generalize decide (l[p]? = some 45) = neg at *
  have ad : ∀ S, fAdd false (.int (h : Int)) (.int (m : Int)) S = .ok (.int ((h + m : Nat) : Int)) S := fun S => by rw [w_add, Int.natCast_add]
  by_cases m0 : m = 0
  · subst m0
    have z : ∀ S, fEq false (.int ((0 : Nat) : Int)) (.int 0) S = .ok (.bl true) S := fun S => by rw [w_eq]; rfl
    simp [runF, startP, endOf, dRet, dRetN, dIf, dIfS, dB, dBin, dUn, dV, dC, sE, asB, dSeq, dSet, dPar, dPar3, dAsg, dExpr, dAnd, dOr, dNot, bAnd, bOr, bNot, dTru, dCB, dCons, dNil, dTup, dLst, dChain, dPass, fCmpI, fIsN, gTp, gsCons, gsNil, gNm, mkTup, dSl, dPart, dNoPart, lim, iLt, iLe, iGt, iGe, rn_, z, w_eq, dRaiseF, pxR, exB]
  have z : ∀ S, fEq false (.int (m : Int)) (.int 0) S = .ok (.bl false) S := fun S => by rw [w_eq, beq_eq_false_iff_ne.mpr (by omega : (m : Int) ≠ 0)]; rfl
  rw [if_neg m0]
  by_cases lt : h + m < l.length
  · have lt' : ((h + m : Nat) : Int) < (l.length : Int) := by omega
    rw [if_pos lt]
    generalize h + m = hm' at *
    simp [runF, startP, endOf, dRet, dRetN, dIf, dIfS, dB, dBin, dUn, dV, dC, sE, asB, dSeq, dSet, dPar, dPar3, dAsg, dExpr, dAnd, dOr, dNot, bAnd, bOr, bNot, dTru, dCB, dCons, dNil, dTup, dLst, dChain, dPass, fCmpI, fIsN, gTp, gsCons, gsNil, gNm, mkTup, dSl, dPart, dNoPart, lim, iLt, iLe, iGt, iGe, rn_, z, ad, ln, lt', dRaiseF, pxR, exB]
  have lt' : ¬ ((h + m : Nat) : Int) < (l.length : Int) := by omega
  rw [if_neg lt]
  have dg : AD (l.drop h) := rn_all (by rw [hm]; exact lt)
  have ne : l.drop h ≠ [] := fun e => m0 (by rw [← hm, e]; rfl)
  have sl := fun S => tsl_from (l := l) (a := h) (S := S) hh hl'
  have it := fun S => tint (S := S) dg ne (by rw [List.length_drop]; omega)
  generalize hv : val (l.drop h) = v at *
  generalize l.drop h = dh at *
  generalize h + m = hm' at *
  by_cases m3 : 3 < m
  · have m3' : (3 : Int) < (m : Int) := by omega
    rw [if_pos (Or.inl m3)]
    simp [runF, startP, endOf, dRet, dRetN, dIf, dIfS, dB, dBin, dUn, dV, dC, sE, asB, dSeq, dSet, dPar, dPar3, dAsg, dExpr, dAnd, dOr, dNot, bAnd, bOr, bNot, dTru, dCB, dCons, dNil, dTup, dLst, dChain, dPass, fCmpI, fIsN, gTp, gsCons, gsNil, gNm, mkTup, dSl, dPart, dNoPart, lim, iLt, iLe, iGt, iGe, rn_, z, ad, ln, lt', m3', dRaiseF, pxR, exB]
  have m3' : ¬ (3 : Int) < (m : Int) := by omega
  by_cases v3 : 140 < v
  · have v3' : (140 : Int) < (v : Int) := by omega
    rw [if_pos (Or.inr v3)]
    simp [runF, startP, endOf, dRet, dRetN, dIf, dIfS, dB, dBin, dUn, dV, dC, sE, asB, dSeq, dSet, dPar, dPar3, dAsg, dExpr, dAnd, dOr, dNot, bAnd, bOr, bNot, dTru, dCB, dCons, dNil, dTup, dLst, dChain, dPass, fCmpI, fIsN, gTp, gsCons, gsNil, gNm, mkTup, dSl, dPart, dNoPart, lim, iLt, iLe, iGt, iGe, rn_, z, ad, ln, lt', m3', sl, it, v3', dRaiseF, pxR, exB]
  have v3' : ¬ (140 : Int) < (v : Int) := by omega
  rw [if_neg (by omega)]
  have mu : ∀ S, fMul false (.int (sgn neg 1)) (.int (v : Int)) S = .ok (.int (sgn neg (v : Nat))) S := fun S => by
    rw [mul_sm (by cases neg <;> decide +kernel) (Nat.le_trans (show ((v : Int)).natAbs ≤ 140 by omega) (by decide +kernel))]
    cases neg <;> simp [sgn]
  simp [runF, startP, endOf, dRet, dRetN, dIf, dIfS, dB, dBin, dUn, dV, dC, sE, asB, dSeq, dSet, dPar, dPar3, dAsg, dExpr, dAnd, dOr, dNot, bAnd, bOr, bNot, dTru, dCB, dCons, dNil, dTup, dLst, dChain, dPass, fCmpI, fIsN, gTp, gsCons, gsNil, gNm, mkTup, dSl, dPart, dNoPart, lim, iLt, iLe, iGt, iGe, rn_, z, ad, ln, lt', m3', sl, it, v3', mu, pxR]
end G58
end
section
set_option Elab.async false
set_option linter.all false
set_option maxRecDepth 100000
set_option maxHeartbeats 4000000
set_option exponentiation.threshold 5000
namespace G58
open PySem PySem.Spec PyProof.Rows L2 Mi Ra Tx
def prR (S : Sto) : PR → Res PV
  | .bad i => exB i S
  | .ok i e => .ok (.tup [.int i, .int e]) S
def rrT : EnP → Sto → SR := dSeq (dSet 6 (dC (.int 0))) (dSeq (dIfS (dB (dBin (fCmpI iLt) (dV 2) (dCB fLen (dCons (dV 0) (dNil))))) (dSeq (dIfS (dB (dBin (fEq true) (dBin fIx (dV 0) (dV 2)) (dC (.str c_POWER)))) (dRaiseF ("BadText" : Str) ("place" : Str) (dV 2)) (dPass)) (dSet 6 (dCB F_power_read (dCons (dV 0) (dCons (dBin (fAdd false) (dV 2) (dC (.int 1))) (dNil)))))) (dPass)) (dRet (dTup (dCons (dBin (fMul false) (dV 1) (dCB fIntS (dCons (dBin (fAdd false) (dV 4) (dV 5)) (dNil)))) (dCons (dBin fSub (dV 6) (dCB fLen (dCons (dV 5) (dNil)))) (dNil))))))
theorem val_sm {l : List Nat} (h : AD l) (hl : l.length ≤ 600) : ((val l : Nat) : Int).natAbs ≤ 2 ^ 4000 := by
  have := val_lt h
  rw [Int.natAbs_natCast]
  exact Nat.le_trans (Nat.le_of_lt this) (Nat.le_trans (Nat.pow_le_pow_right (by decide) hl) (by decide +kernel))
theorem sgn_mul {neg : Bool} {v : Nat} {S : Sto} (h : ((v : Nat) : Int).natAbs ≤ 2 ^ 4000) : fMul false (.int (sgn neg 1)) (.int (v : Int)) S = .ok (.int (sgn neg (v : Nat))) S := by
  rw [mul_sm (by cases neg <;> decide +kernel) h]
  cases neg <;> simp [sgn]
theorem rr_tail {l : List Nat} (as : AS l) (hl : l.length ≤ 300) {neg : Bool} {W B : List Nat} {h : Nat} (hh : h ≤ l.length) (aW : AD W) (aB : AD B) (nW : W ≠ []) (lW : W.length ≤ 300) (lB : B.length ≤ 300) {a3 : Option PV} (S : Sto) :
    endOf (rrT [some (tS l), some (.int (sgn neg 1)), some (.int (h : Nat)), a3, some (tS W), some (tS B), none] S) = prR S (fin l neg (W ++ B) B.length h) := by
  have hl' : l.length ≤ 1000 := by omega
  have ln := fun S => tlen (l := l) (S := S) hl'
  have lb := fun S => tlen (l := B) (S := S) (by omega)
  have ct := fun S => tcat (a := W) (b := B) (S := S) (by omega)
  have dg : AD (W ++ B) := aW.app aB
  have ne : W ++ B ≠ [] := by simp [nW]
  have it := fun S => tint (l := W ++ B) (S := S) dg ne (by rw [List.length_append]; omega)
  have sm := val_sm dg (by rw [List.length_append]; omega)
  have mu := fun S => sgn_mul (neg := neg) (S := S) sm
  unfold fin
  generalize hv : val (W ++ B) = v at *
  generalize W ++ B = D at *
  have t7 : ∀ (e : Int), endOf ((dRet (dTup (dCons (dBin (fMul false) (dV 1) (dCB fIntS (dCons (dBin (fAdd false) (dV 4) (dV 5)) (dNil)))) (dCons (dBin fSub (dV 6) (dCB fLen (dCons (dV 5) (dNil)))) (dNil))))) [some (tS l), some (.int (sgn neg 1)), some (.int (h : Nat)), a3, some (tS W), some (tS B), some (.int e)] S) = .ok (.tup [.int (sgn neg (v : Nat)), .int (e - (B.length : Int))]) S := fun e => by
    simp [runF, startP, endOf, dRet, dRetN, dIf, dIfS, dB, dBin, dUn, dV, dC, sE, asB, dSeq, dSet, dPar, dPar3, dAsg, dExpr, dAnd, dOr, dNot, bAnd, bOr, bNot, dTru, dCB, dCons, dNil, dTup, dLst, dChain, dPass, fCmpI, fIsN, gTp, gsCons, gsNil, gNm, mkTup, dSl, dPart, dNoPart, lim, iLt, iLe, iGt, iGe, ct, it, mu, lb, w_sub]
  by_cases lt : h < l.length
  · have lt' : (h : Int) < (l.length : Int) := by omega
    have x := fun S => tix (S := S) lt hl'
    have ie := is_e as lt
    have px := e_expo as (by omega) (show h + 1 ≤ l.length by omega)
    have ad : ∀ S, fAdd false (.int (h : Int)) (.int 1) S = .ok (.int ((h + 1 : Nat) : Int)) S := fun S => by rw [w_add]; rfl
    rw [if_pos lt]
    by_cases c : l[h]? = some 101
    · rw [if_pos c]
      rw [decide_eq_true c] at ie
      cases ex : expo l (h + 1) with
      | bad i =>
        rw [ex] at px
        generalize h + 1 = h1 at *
        simp only [pxR, exB] at px
        have s : rrT [some (tS l), some (.int (sgn neg 1)), some (.int (h : Nat)), a3, some (tS W), some (tS B), none] S = .exc "BadText" [("place", .int (i : Nat))] [some (tS l), some (.int (sgn neg 1)), some (.int (h : Nat)), a3, some (tS W), some (tS B), some (.int 0)] S := by
          simp [rrT, runF, startP, endOf, dRet, dRetN, dIf, dIfS, dB, dBin, dUn, dV, dC, sE, asB, dSeq, dSet, dPar, dPar3, dAsg, dExpr, dAnd, dOr, dNot, bAnd, bOr, bNot, dTru, dCB, dCons, dNil, dTup, dLst, dChain, dPass, fCmpI, fIsN, gTp, gsCons, gsNil, gNm, mkTup, dSl, dPart, dNoPart, lim, iLt, iLe, iGt, iGe, ln, lt', x, ie, ad, px]
        rw [s]
        rfl
      | ok e =>
        rw [ex] at px
        generalize h + 1 = h1 at *
        simp only [pxR] at px
        have s : rrT [some (tS l), some (.int (sgn neg 1)), some (.int (h : Nat)), a3, some (tS W), some (tS B), none] S = (dRet (dTup (dCons (dBin (fMul false) (dV 1) (dCB fIntS (dCons (dBin (fAdd false) (dV 4) (dV 5)) (dNil)))) (dCons (dBin fSub (dV 6) (dCB fLen (dCons (dV 5) (dNil)))) (dNil))))) [some (tS l), some (.int (sgn neg 1)), some (.int (h : Nat)), a3, some (tS W), some (tS B), some (.int e)] S := by
          simp [rrT, runF, startP, endOf, dRet, dRetN, dIf, dIfS, dB, dBin, dUn, dV, dC, sE, asB, dSeq, dSet, dPar, dPar3, dAsg, dExpr, dAnd, dOr, dNot, bAnd, bOr, bNot, dTru, dCB, dCons, dNil, dTup, dLst, dChain, dPass, fCmpI, fIsN, gTp, gsCons, gsNil, gNm, mkTup, dSl, dPart, dNoPart, lim, iLt, iLe, iGt, iGe, ln, lt', x, ie, ad, px]
        rw [s, t7]
        rfl
    · rw [if_neg c]
      rw [decide_eq_false c] at ie
      have s : rrT [some (tS l), some (.int (sgn neg 1)), some (.int (h : Nat)), a3, some (tS W), some (tS B), none] S = .exc "BadText" [("place", .int (h : Nat))] [some (tS l), some (.int (sgn neg 1)), some (.int (h : Nat)), a3, some (tS W), some (tS B), some (.int 0)] S := by
        simp [rrT, runF, startP, endOf, dRet, dRetN, dIf, dIfS, dB, dBin, dUn, dV, dC, sE, asB, dSeq, dSet, dPar, dPar3, dAsg, dExpr, dAnd, dOr, dNot, bAnd, bOr, bNot, dTru, dCB, dCons, dNil, dTup, dLst, dChain, dPass, fCmpI, fIsN, gTp, gsCons, gsNil, gNm, mkTup, dSl, dPart, dNoPart, lim, iLt, iLe, iGt, iGe, ln, lt', x, ie, dRaiseF]
      rw [s]
      rfl
  · have lt' : ¬ (h : Int) < (l.length : Int) := by omega
    rw [if_neg lt]
    have s : rrT [some (tS l), some (.int (sgn neg 1)), some (.int (h : Nat)), a3, some (tS W), some (tS B), none] S = (dRet (dTup (dCons (dBin (fMul false) (dV 1) (dCB fIntS (dCons (dBin (fAdd false) (dV 4) (dV 5)) (dNil)))) (dCons (dBin fSub (dV 6) (dCB fLen (dCons (dV 5) (dNil)))) (dNil))))) [some (tS l), some (.int (sgn neg 1)), some (.int (h : Nat)), a3, some (tS W), some (tS B), some (.int 0)] S := by
      simp [rrT, runF, startP, endOf, dRet, dRetN, dIf, dIfS, dB, dBin, dUn, dV, dC, sE, asB, dSeq, dSet, dPar, dPar3, dAsg, dExpr, dAnd, dOr, dNot, bAnd, bOr, bNot, dTru, dCB, dCons, dNil, dTup, dLst, dChain, dPass, fCmpI, fIsN, gTp, gsCons, gsNil, gNm, mkTup, dSl, dPart, dNoPart, lim, iLt, iLe, iGt, iGe, ln, lt']
    rw [s, t7]
    rfl
theorem is_neg {l : List Nat} (as : AS l) (hl : l.length ≤ 1000) (S : Sto) : ∃ t, fSl false (tS l) none (some 1) S = .ok (.str t) S ∧ ∀ (neg : Bool) S, fEq neg (.str t) (.str ("-" : Str)) S = .ok (.bl (if neg = true then !decide (l[0]? = some 45) else decide (l[0]? = some 45))) S := by
  refine ⟨_, tsl_to (b := 1) hl, fun neg S => ?_⟩
  have q := teq neg (as.take 1) (as1 (c := 45) (by decide)) S
  have e := one_at (l := l) (i := 0) 45
  rw [List.drop_zero] at e
  rw [e] at q
  exact q
theorem e_raw_read {l : List Nat} (as : AS l) (hl : l.length ≤ 300) (S : Sto) : F_raw_read [tS l] S = prR S (pr l) := by
  have hl' : l.length ≤ 1000 := by omega
  obtain ⟨t1, ts, te⟩ := is_neg as hl' S
  have te := te false
  have ln := fun S => tlen (l := l) (S := S) hl'
  have dd : d_raw_read = dSeq (dAsg (dIf (dB (dBin (fEq false) (dSl false (dV 0) (dNoPart) (dPart (dC (.int 1)))) (dC (.str c_MINUS)))) (dTup (dCons (dUn fNeg (dC (.int 1))) (dCons (dC (.int 1)) (dNil)))) (dTup (dCons (dC (.int 1)) (dCons (dC (.int 0)) (dNil))))) (gTp 2 (gsCons (gNm 1) (gsCons (gNm 2) (gsNil))))) (dSeq (dSet 3 (dCB F_run_of (dCons (dV 0) (dCons (dV 2) (dNil))))) (dSeq (dIfS (dB (dBin (fEq false) (dV 3) (dC (.int 0)))) (dRaiseF ("BadText" : Str) ("place" : Str) (dV 2)) (dPass)) (dSeq (dPar3 4 2 5 (dCons (dSl false (dV 0) (dPart (dV 2)) (dPart (dBin (fAdd false) (dV 2) (dV 3)))) (dCons (dBin (fAdd false) (dV 2) (dV 3)) (dCons (dC (.str ("" : Str))) (dNil))))) (dSeq (dIfS (bAnd (dB (dBin (fCmpI iLt) (dV 2) (dCB fLen (dCons (dV 0) (dNil))))) (dB (dBin (fEq false) (dBin fIx (dV 0) (dV 2)) (dC (.str c_POINT))))) (dSeq (dSet 3 (dCB F_run_of (dCons (dV 0) (dCons (dBin (fAdd false) (dV 2) (dC (.int 1))) (dNil))))) (dSeq (dIfS (dB (dBin (fEq false) (dV 3) (dC (.int 0)))) (dRaiseF ("BadText" : Str) ("place" : Str) (dBin (fAdd false) (dV 2) (dC (.int 1)))) (dPass)) (dPar 5 2 (dCons (dSl false (dV 0) (dPart (dBin (fAdd false) (dV 2) (dC (.int 1)))) (dPart (dBin (fAdd false) (dBin (fAdd false) (dV 2) (dC (.int 1))) (dV 3)))) (dCons (dBin (fAdd false) (dBin (fAdd false) (dV 2) (dC (.int 1))) (dV 3)) (dNil)))))) (dPass)) rrT)))) := rfl
  have e0 : F_raw_read [tS l] S = endOf (d_raw_read [some (tS l), none, none, none, none, none, none] S) := rfl
  unfold pr
  have bl : (if decide (l[0]? = some 45) = true then 1 else 0) ≤ l.length := by
    by_cases c : l[0]? = some 45
    · have := (List.getElem?_eq_some_iff.mp c).1
      simp [c]; omega
    · simp [c]
  simp only [Bool.false_eq_true, if_false] at te
  rw [e0, dd]
  have s0 : (dAsg (dIf (dB (dBin (fEq false) (dSl false (dV 0) (dNoPart) (dPart (dC (.int 1)))) (dC (.str c_MINUS)))) (dTup (dCons (dUn fNeg (dC (.int 1))) (dCons (dC (.int 1)) (dNil)))) (dTup (dCons (dC (.int 1)) (dCons (dC (.int 0)) (dNil))))) (gTp 2 (gsCons (gNm 1) (gsCons (gNm 2) (gsNil))))) [some (tS l), none, none, none, none, none, none] S = .nx [some (tS l), some (.int (sgn (decide (l[0]? = some 45)) 1)), some (.int ((if decide (l[0]? = some 45) = true then 1 else 0 : Nat) : Int)), none, none, none, none] S := by
    cases c : decide (l[0]? = some 45) <;> rw [c] at te <;> simp [runF, startP, endOf, dRet, dRetN, dIf, dIfS, dB, dBin, dUn, dV, dC, sE, asB, dSeq, dSet, dPar, dPar3, dAsg, dExpr, dAnd, dOr, dNot, bAnd, bOr, bNot, dTru, dCB, dCons, dNil, dTup, dLst, dChain, dPass, fCmpI, fIsN, gTp, gsCons, gsNil, gNm, mkTup, dSl, dPart, dNoPart, lim, iLt, iLe, iGt, iGe, ts, te, w_neg, sgn]
  simp only [dSeq, s0]
  clear s0 e0
  generalize decide (l[0]? = some 45) = neg at *
  generalize (if neg = true then 1 else 0 : Nat) = b at *
  have rn_ := fun S => e_run (l := l) (i := b) (S := S) hl' bl
  have aW := rn_digits (l.drop b)
  have hmb := rn_le' l b
  generalize hm : rn (l.drop b) = m at *
  have s1 : (dSet 3 (dCB F_run_of (dCons (dV 0) (dCons (dV 2) (dNil))))) [some (tS l), some (.int (sgn neg 1)), some (.int (b : Nat)), none, none, none, none] S = .nx [some (tS l), some (.int (sgn neg 1)), some (.int (b : Nat)), some (.int (m : Nat)), none, none, none] S := by
    simp [runF, startP, endOf, dRet, dRetN, dIf, dIfS, dB, dBin, dUn, dV, dC, sE, asB, dSeq, dSet, dPar, dPar3, dAsg, dExpr, dAnd, dOr, dNot, bAnd, bOr, bNot, dTru, dCB, dCons, dNil, dTup, dLst, dChain, dPass, fCmpI, fIsN, gTp, gsCons, gsNil, gNm, mkTup, dSl, dPart, dNoPart, lim, iLt, iLe, iGt, iGe, rn_]
  simp only [s1]
  by_cases m0 : m = 0
  · subst m0
    have z : ∀ S, fEq false (.int ((0 : Nat) : Int)) (.int 0) S = .ok (.bl true) S := fun S => by rw [w_eq]; rfl
    rw [if_pos rfl]
    simp [runF, startP, endOf, dRet, dRetN, dIf, dIfS, dB, dBin, dUn, dV, dC, sE, asB, dSeq, dSet, dPar, dPar3, dAsg, dExpr, dAnd, dOr, dNot, bAnd, bOr, bNot, dTru, dCB, dCons, dNil, dTup, dLst, dChain, dPass, fCmpI, fIsN, gTp, gsCons, gsNil, gNm, mkTup, dSl, dPart, dNoPart, lim, iLt, iLe, iGt, iGe, z, dRaiseF, prR, exB, w_eq]
  rw [if_neg m0]
  have z : ∀ S, fEq false (.int (m : Int)) (.int 0) S = .ok (.bl false) S := fun S => by rw [w_eq, beq_eq_false_iff_ne.mpr (by omega : (m : Int) ≠ 0)]; rfl
  have s2 : (dIfS (dB (dBin (fEq false) (dV 3) (dC (.int 0)))) (dRaiseF ("BadText" : Str) ("place" : Str) (dV 2)) (dPass)) [some (tS l), some (.int (sgn neg 1)), some (.int (b : Nat)), some (.int (m : Nat)), none, none, none] S = .nx [some (tS l), some (.int (sgn neg 1)), some (.int (b : Nat)), some (.int (m : Nat)), none, none, none] S := by
    simp [runF, startP, endOf, dRet, dRetN, dIf, dIfS, dB, dBin, dUn, dV, dC, sE, asB, dSeq, dSet, dPar, dPar3, dAsg, dExpr, dAnd, dOr, dNot, bAnd, bOr, bNot, dTru, dCB, dCons, dNil, dTup, dLst, dChain, dPass, fCmpI, fIsN, gTp, gsCons, gsNil, gNm, mkTup, dSl, dPart, dNoPart, lim, iLt, iLe, iGt, iGe, z]
  have ad : ∀ S, fAdd false (.int (b : Int)) (.int (m : Int)) S = .ok (.int ((b + m : Nat) : Int)) S := fun S => by rw [w_add, Int.natCast_add]
  have sl := fun S => tsl_ab (l := l) (a := b) (b := b + m) (S := S) (by omega) bl hl'
  rw [show b + m - b = m from by omega] at sl
  have lW : ((l.drop b).take m).length = m := by rw [List.length_take, List.length_drop]; omega
  have nW : (l.drop b).take m ≠ [] := fun e => m0 (by rw [← lW, e]; rfl)
  generalize (l.drop b).take m = W at *
  have hh : b + m ≤ l.length := by omega
  generalize b + m = h at *
  have em : (.str ("" : Str) : PV) = tS [] := rfl
  have s3 : (dPar3 4 2 5 (dCons (dSl false (dV 0) (dPart (dV 2)) (dPart (dBin (fAdd false) (dV 2) (dV 3)))) (dCons (dBin (fAdd false) (dV 2) (dV 3)) (dCons (dC (.str ("" : Str))) (dNil))))) [some (tS l), some (.int (sgn neg 1)), some (.int (b : Nat)), some (.int (m : Nat)), none, none, none] S = .nx [some (tS l), some (.int (sgn neg 1)), some (.int (h : Nat)), some (.int (m : Nat)), some (tS W), some (tS []), none] S := by
    simp [runF, startP, endOf, dRet, dRetN, dIf, dIfS, dB, dBin, dUn, dV, dC, sE, asB, dSeq, dSet, dPar, dPar3, dAsg, dExpr, dAnd, dOr, dNot, bAnd, bOr, bNot, dTru, dCB, dCons, dNil, dTup, dLst, dChain, dPass, fCmpI, fIsN, gTp, gsCons, gsNil, gNm, mkTup, dSl, dPart, dNoPart, lim, iLt, iLe, iGt, iGe, ad, sl]
    rfl
  simp only [s2, s3]
  by_cases dot : l[h]? = some 46
  · have lt := (List.getElem?_eq_some_iff.mp dot).1
    have lt' : (h : Int) < (l.length : Int) := by omega
    have x := fun S => tix (S := S) lt hl'
    have ip := is_p as lt
    rw [decide_eq_true dot] at ip
    rw [if_pos dot]
    have ad1 : ∀ S, fAdd false (.int (h : Int)) (.int 1) S = .ok (.int ((h + 1 : Nat) : Int)) S := fun S => by rw [w_add]; rfl
    have h1 : h + 1 ≤ l.length := by omega
    have rn2 := fun S => e_run (l := l) (i := h + 1) (S := S) hl' h1
    have aB := rn_digits (l.drop (h + 1))
    have hmb2 := rn_le' l (h + 1)
    generalize hm2 : rn (l.drop (h + 1)) = m2 at *
    generalize hg : h + 1 = hp at *
    have ad2 : ∀ S, fAdd false (.int (hp : Int)) (.int (m2 : Int)) S = .ok (.int ((hp + m2 : Nat) : Int)) S := fun S => by rw [w_add, Int.natCast_add]
    have sl2 := fun S => tsl_ab (l := l) (a := hp) (b := hp + m2) (S := S) (by omega) h1 hl'
    rw [show hp + m2 - hp = m2 from by omega] at sl2
    have lB : ((l.drop hp).take m2).length = m2 := by rw [List.length_take, List.length_drop]; omega
    generalize (l.drop hp).take m2 = B at *
    by_cases m20 : m2 = 0
    · rw [if_pos m20]
      subst m20
      have z2 : ∀ S, fEq false (.int ((0 : Nat) : Int)) (.int 0) S = .ok (.bl true) S := fun S => by rw [w_eq]; rfl
      have s4 : (dIfS (bAnd (dB (dBin (fCmpI iLt) (dV 2) (dCB fLen (dCons (dV 0) (dNil))))) (dB (dBin (fEq false) (dBin fIx (dV 0) (dV 2)) (dC (.str c_POINT))))) (dSeq (dSet 3 (dCB F_run_of (dCons (dV 0) (dCons (dBin (fAdd false) (dV 2) (dC (.int 1))) (dNil))))) (dSeq (dIfS (dB (dBin (fEq false) (dV 3) (dC (.int 0)))) (dRaiseF ("BadText" : Str) ("place" : Str) (dBin (fAdd false) (dV 2) (dC (.int 1)))) (dPass)) (dPar 5 2 (dCons (dSl false (dV 0) (dPart (dBin (fAdd false) (dV 2) (dC (.int 1)))) (dPart (dBin (fAdd false) (dBin (fAdd false) (dV 2) (dC (.int 1))) (dV 3)))) (dCons (dBin (fAdd false) (dBin (fAdd false) (dV 2) (dC (.int 1))) (dV 3)) (dNil)))))) (dPass)) [some (tS l), some (.int (sgn neg 1)), some (.int (h : Nat)), some (.int (m : Nat)), some (tS W), some (tS []), none] S = .exc "BadText" [("place", .int (hp : Nat))] [some (tS l), some (.int (sgn neg 1)), some (.int (h : Nat)), some (.int ((0 : Nat) : Int)), some (tS W), some (tS []), none] S := by
        simp [runF, startP, endOf, dRet, dRetN, dIf, dIfS, dB, dBin, dUn, dV, dC, sE, asB, dSeq, dSet, dPar, dPar3, dAsg, dExpr, dAnd, dOr, dNot, bAnd, bOr, bNot, dTru, dCB, dCons, dNil, dTup, dLst, dChain, dPass, fCmpI, fIsN, gTp, gsCons, gsNil, gNm, mkTup, dSl, dPart, dNoPart, lim, iLt, iLe, iGt, iGe, ln, lt', x, ip, ad1, rn2, z2, dRaiseF, w_eq]
      simp only [s4]
      rfl
    rw [if_neg m20]
    have z2 : ∀ S, fEq false (.int (m2 : Int)) (.int 0) S = .ok (.bl false) S := fun S => by rw [w_eq, beq_eq_false_iff_ne.mpr (by omega : (m2 : Int) ≠ 0)]; rfl
    have hh2 : hp + m2 ≤ l.length := by omega
    generalize hp + m2 = h2 at *
    have s4 : (dIfS (bAnd (dB (dBin (fCmpI iLt) (dV 2) (dCB fLen (dCons (dV 0) (dNil))))) (dB (dBin (fEq false) (dBin fIx (dV 0) (dV 2)) (dC (.str c_POINT))))) (dSeq (dSet 3 (dCB F_run_of (dCons (dV 0) (dCons (dBin (fAdd false) (dV 2) (dC (.int 1))) (dNil))))) (dSeq (dIfS (dB (dBin (fEq false) (dV 3) (dC (.int 0)))) (dRaiseF ("BadText" : Str) ("place" : Str) (dBin (fAdd false) (dV 2) (dC (.int 1)))) (dPass)) (dPar 5 2 (dCons (dSl false (dV 0) (dPart (dBin (fAdd false) (dV 2) (dC (.int 1)))) (dPart (dBin (fAdd false) (dBin (fAdd false) (dV 2) (dC (.int 1))) (dV 3)))) (dCons (dBin (fAdd false) (dBin (fAdd false) (dV 2) (dC (.int 1))) (dV 3)) (dNil)))))) (dPass)) [some (tS l), some (.int (sgn neg 1)), some (.int (h : Nat)), some (.int (m : Nat)), some (tS W), some (tS []), none] S = .nx [some (tS l), some (.int (sgn neg 1)), some (.int (h2 : Nat)), some (.int (m2 : Nat)), some (tS W), some (tS B), none] S := by
      simp [runF, startP, endOf, dRet, dRetN, dIf, dIfS, dB, dBin, dUn, dV, dC, sE, asB, dSeq, dSet, dPar, dPar3, dAsg, dExpr, dAnd, dOr, dNot, bAnd, bOr, bNot, dTru, dCB, dCons, dNil, dTup, dLst, dChain, dPass, fCmpI, fIsN, gTp, gsCons, gsNil, gNm, mkTup, dSl, dPart, dNoPart, lim, iLt, iLe, iGt, iGe, ln, lt', x, ip, ad1, rn2, z2, ad2, sl2]
    simp only [s4]
    have := rr_tail as hl (neg := neg) (a3 := some (.int (m2 : Nat))) hh2 aW aB nW (by omega) (by omega) S
    rw [lB] at this
    exact this
  · rw [if_neg dot]
    have s4 : (dIfS (bAnd (dB (dBin (fCmpI iLt) (dV 2) (dCB fLen (dCons (dV 0) (dNil))))) (dB (dBin (fEq false) (dBin fIx (dV 0) (dV 2)) (dC (.str c_POINT))))) (dSeq (dSet 3 (dCB F_run_of (dCons (dV 0) (dCons (dBin (fAdd false) (dV 2) (dC (.int 1))) (dNil))))) (dSeq (dIfS (dB (dBin (fEq false) (dV 3) (dC (.int 0)))) (dRaiseF ("BadText" : Str) ("place" : Str) (dBin (fAdd false) (dV 2) (dC (.int 1)))) (dPass)) (dPar 5 2 (dCons (dSl false (dV 0) (dPart (dBin (fAdd false) (dV 2) (dC (.int 1)))) (dPart (dBin (fAdd false) (dBin (fAdd false) (dV 2) (dC (.int 1))) (dV 3)))) (dCons (dBin (fAdd false) (dBin (fAdd false) (dV 2) (dC (.int 1))) (dV 3)) (dNil)))))) (dPass)) [some (tS l), some (.int (sgn neg 1)), some (.int (h : Nat)), some (.int (m : Nat)), some (tS W), some (tS []), none] S = .nx [some (tS l), some (.int (sgn neg 1)), some (.int (h : Nat)), some (.int (m : Nat)), some (tS W), some (tS []), none] S := by
      by_cases lt : h < l.length
      · have lt' : (h : Int) < (l.length : Int) := by omega
        have x := fun S => tix (S := S) lt hl'
        have ip := is_p as lt
        rw [decide_eq_false dot] at ip
        simp [runF, startP, endOf, dRet, dRetN, dIf, dIfS, dB, dBin, dUn, dV, dC, sE, asB, dSeq, dSet, dPar, dPar3, dAsg, dExpr, dAnd, dOr, dNot, bAnd, bOr, bNot, dTru, dCB, dCons, dNil, dTup, dLst, dChain, dPass, fCmpI, fIsN, gTp, gsCons, gsNil, gNm, mkTup, dSl, dPart, dNoPart, lim, iLt, iLe, iGt, iGe, ln, lt', x, ip]
      · have lt' : ¬ (h : Int) < (l.length : Int) := by omega
        simp [runF, startP, endOf, dRet, dRetN, dIf, dIfS, dB, dBin, dUn, dV, dC, sE, asB, dSeq, dSet, dPar, dPar3, dAsg, dExpr, dAnd, dOr, dNot, bAnd, bOr, bNot, dTru, dCB, dCons, dNil, dTup, dLst, dChain, dPass, fCmpI, fIsN, gTp, gsCons, gsNil, gNm, mkTup, dSl, dPart, dNoPart, lim, iLt, iLe, iGt, iGe, ln, lt']
    simp only [s4]
    have := rr_tail as hl (neg := neg) (a3 := some (.int (m : Nat))) hh aW (B := []) (fun c hc => by cases hc) nW (by omega) (by simp) S
    rw [List.append_nil] at this
    exact this
end G58
end
section
set_option Elab.async false
set_option linter.all false
set_option maxRecDepth 100000
set_option maxHeartbeats 4000000
set_option exponentiation.threshold 5000
namespace G58
open PySem PySem.Spec PyProof.Rows L2 Mi Ra Tx
/-! ### powers of ten -/
theorem p10_loop : ∀ (xs : List PV) (f : Nat) (e t : Option PV) (S : Sto), f * 10 ^ xs.length ≤ 2 ^ 4000 →
    ∃ t', forP (gNm 2) (dSet 1 (dBin (fMul false) (dV 1) (dC (.int 10)))) xs [e, some (.int f), t] S = .nx [e, some (.int ((f * 10 ^ xs.length : Nat) : Int)), t'] S
  | [], f, e, t, S, _ => ⟨t, by simp [forP]⟩
  | x :: xs, f, e, t, S, h => by
    rw [List.length_cons, Nat.pow_succ] at h
    have e1 : f * (10 ^ xs.length * 10) = f * 10 * 10 ^ xs.length := by rw [Nat.mul_comm (10 ^ xs.length) 10, Nat.mul_assoc]
    rw [e1] at h
    have p : 0 < 10 ^ xs.length := Nat.pow_pos (by decide)
    have hf : f * 10 ≤ 2 ^ 4000 := Nat.le_trans (Nat.le_mul_of_pos_right _ p) h
    have hf2 : f ≤ 2 ^ 4000 := by omega
    have m := fun S => mul_sm (i := (f : Int)) (j := 10) (S := S) (by simpa using hf2) (by decide +kernel)
    obtain ⟨t', ih⟩ := p10_loop xs (f * 10) e (some x) S h
    refine ⟨t', ?_⟩
    rw [forP]
    have g : gNm 2 x [e, some (.int f), t] S = .ok [e, some (.int f), some x] S := rfl
    have b : (dSet 1 (dBin (fMul false) (dV 1) (dC (.int 10)))) [e, some (.int f), some x] S = .nx [e, some (.int ((f * 10 : Nat) : Int)), some x] S := by
      simp [runF, startP, endOf, dRet, dRetN, dIf, dIfS, dB, dBin, dUn, dV, dC, sE, asB, dSeq, dSet, dPar, dPar3, dAsg, dExpr, dAnd, dOr, dNot, bAnd, bOr, bNot, dTru, dCB, dCons, dNil, dTup, dLst, dChain, dPass, fCmpI, fIsN, gTp, gsCons, gsNil, gNm, mkTup, dSl, dPart, dNoPart, lim, iLt, iLe, iGt, iGe, m]
    rw [g]
    simp only [sE, b]
    rw [ih, List.length_cons, Nat.pow_succ, e1]
theorem ten_ok {n : Nat} (h : n ≤ 1000) : 10 ^ n ≤ 2 ^ 4000 := Nat.le_trans (Nat.pow_le_pow_right (by decide) h) (by decide +kernel)
theorem pw_e {e : Int} : eQ (pw 10 e) = if 0 ≤ e then .tup [.int ((10 ^ e.natAbs : Nat) : Int), .int 1] else .tup [.int 1, .int ((10 ^ e.natAbs : Nat) : Int)] := by
  by_cases h : 0 ≤ e
  · rw [if_pos h]
    obtain ⟨a, b⟩ := pw_nn (b := 10) h
    unfold eQ
    rw [a, b]
    rfl
  · rw [if_neg h]
    obtain ⟨a, b⟩ := pw_ng (b := 10) (by decide) h
    unfold eQ
    rw [a, b]
theorem up_len (n : Nat) : (Mi.upTo 0 n).length = n := by unfold Mi.upTo; simp
theorem e_p10 {e : Int} (h : e.natAbs ≤ 1000) (S : Sto) : F_power_of_ten [.int e] S = .ok (eQ (pw 10 e)) S := by
  obtain ⟨t, lp⟩ := p10_loop (Mi.upTo 0 e.natAbs) 1 (some (.int e)) none S (by rw [up_len, Nat.one_mul]; exact ten_ok h)
  rw [up_len, Nat.one_mul] at lp
  have ab : (if e < 0 then -e else e) = ((e.natAbs : Nat) : Int) := by split <;> omega
  have r : iRange (dCons (dCB fAbs (dCons (dV 0) (dNil))) (dNil)) [some (.int e), some (.int 1), none] S = .ok (Mi.upTo 0 e.natAbs) S := by
    have q : (dCons (dCB fAbs (dCons (dV 0) (dNil))) (dNil)) [some (.int e), some (.int 1), none] S = .ok [.int ((e.natAbs : Nat) : Int)] S := by simp [runF, startP, endOf, dRet, dRetN, dIf, dIfS, dB, dBin, dUn, dV, dC, sE, asB, dSeq, dSet, dPar, dPar3, dAsg, dExpr, dAnd, dOr, dNot, bAnd, bOr, bNot, dTru, dCB, dCons, dNil, dTup, dLst, dChain, dPass, fCmpI, fIsN, gTp, gsCons, gsNil, gNm, mkTup, dSl, dPart, dNoPart, lim, iLt, iLe, iGt, iGe, w_abs, ab]
    unfold iRange
    rw [q, Res.bind_ok]
    show (if -1000000 ≤ ((e.natAbs : Nat) : Int) ∧ ((e.natAbs : Nat) : Int) ≤ 1000000 then Res.ok (upTo 0 ((e.natAbs : Nat) : Int).toNat) S else .bad) = _
    rw [if_pos (by omega), Int.toNat_natCast]
  have e0 : F_power_of_ten [.int e] S = endOf (d_power_of_ten [some (.int e), none, none] S) := rfl
  have s0 : (dSet 1 (dC (.int 1))) [some (.int e), none, none] S = .nx [some (.int e), some (.int 1), none] S := rfl
  have e1 : ((1 : Nat) : Int) = 1 := rfl
  rw [e1] at lp
  rw [e0, d_power_of_ten]
  simp only [dSeq, s0, dFor, r, sE, lp]
  rw [pw_e]
  generalize ((10 ^ e.natAbs : Nat) : Int) = N
  by_cases c : 0 ≤ e <;> simp [runF, startP, endOf, dRet, dRetN, dIf, dIfS, dB, dBin, dUn, dV, dC, sE, asB, dSeq, dSet, dPar, dPar3, dAsg, dExpr, dAnd, dOr, dNot, bAnd, bOr, bNot, dTru, dCB, dCons, dNil, dTup, dLst, dChain, dPass, fCmpI, fIsN, gTp, gsCons, gsNil, gNm, mkTup, dSl, dPart, dNoPart, lim, iLt, iLe, iGt, iGe, c]
theorem l_p10 {e : Int} (h : e.natAbs ≤ 1000) (S : Sto) : F_law_power_L [.int 10, .int e] S = .ok (eQ (pw 10 e)) S := by
  obtain ⟨t, lp⟩ := pw_loop 10 (Mi.upTo 0 e.natAbs) 1 (some (.int e)) none S (by rw [up_len, Nat.one_mul]; exact ten_ok h) (by decide) (by decide)
  rw [up_len, Nat.one_mul] at lp
  have ab : (if e < 0 then -e else e) = ((e.natAbs : Nat) : Int) := by split <;> omega
  have r : iRange (dCons (dCB fAbs (dCons (dV 1) (dNil))) (dNil)) [some (.int 10), some (.int e), some (.int 1), none] S = .ok (Mi.upTo 0 e.natAbs) S := by
    have q : (dCons (dCB fAbs (dCons (dV 1) (dNil))) (dNil)) [some (.int 10), some (.int e), some (.int 1), none] S = .ok [.int ((e.natAbs : Nat) : Int)] S := by simp [runF, startP, endOf, dRet, dRetN, dIf, dIfS, dB, dBin, dUn, dV, dC, sE, asB, dSeq, dSet, dPar, dPar3, dAsg, dExpr, dAnd, dOr, dNot, bAnd, bOr, bNot, dTru, dCB, dCons, dNil, dTup, dLst, dChain, dPass, fCmpI, fIsN, gTp, gsCons, gsNil, gNm, mkTup, dSl, dPart, dNoPart, lim, iLt, iLe, iGt, iGe, w_abs, ab]
    unfold iRange
    rw [q, Res.bind_ok]
    show (if -1000000 ≤ ((e.natAbs : Nat) : Int) ∧ ((e.natAbs : Nat) : Int) ≤ 1000000 then Res.ok (upTo 0 ((e.natAbs : Nat) : Int).toNat) S else .bad) = _
    rw [if_pos (by omega), Int.toNat_natCast]
  have e0 : F_law_power_L [.int 10, .int e] S = endOf (d_law_power_L [some (.int 10), some (.int e), none, none] S) := rfl
  have s0 : (dSet 2 (dC (.int 1))) [some (.int 10), some (.int e), none, none] S = .nx [some (.int 10), some (.int e), some (.int 1), none] S := rfl
  have e1 : ((1 : Nat) : Int) = 1 := rfl
  have e2 : ((10 : Nat) : Int) = 10 := rfl
  rw [e1, e2] at lp
  rw [e0, d_law_power_L]
  simp only [dSeq, s0, dFor, r, sE, lp]
  rw [pw_e]
  generalize ((10 ^ e.natAbs : Nat) : Int) = N
  by_cases c : 0 ≤ e <;> simp [runF, startP, endOf, dRet, dRetN, dIf, dIfS, dB, dBin, dUn, dV, dC, sE, asB, dSeq, dSet, dPar, dPar3, dAsg, dExpr, dAnd, dOr, dNot, bAnd, bOr, bNot, dTru, dCB, dCons, dNil, dTup, dLst, dChain, dPass, fCmpI, fIsN, gTp, gsCons, gsNil, gNm, mkTup, dSl, dPart, dNoPart, lim, iLt, iLe, iGt, iGe, c]
theorem pw_sz {e : Int} (h : e.natAbs ≤ 600) : (pw 10 e).num.natAbs ≤ 10 ^ 600 ∧ (pw 10 e).den ≤ 10 ^ 600 := by
  have b : 10 ^ e.natAbs ≤ 10 ^ 600 := Nat.pow_le_pow_right (by decide) h
  by_cases c : 0 ≤ e
  · obtain ⟨x, y⟩ := pw_nn (b := 10) c
    rw [x, y]
    exact ⟨by rw [Int.natAbs_natCast]; exact b, by decide +kernel⟩
  · obtain ⟨x, y⟩ := pw_ng (b := 10) (by decide) c
    rw [x]
    exact ⟨by decide +kernel, by omega⟩
theorem scale_is (i : Int) (q : Rat) : Rat.divInt (i * q.num) (q.den : Int) = (i : Rat) * q := by
  have h := mul_is (i : Rat) q
  rw [← h]
  simp
theorem e_worth {i e : Int} (hi : i.natAbs ≤ 10 ^ 300) (he : e.natAbs ≤ 600) (S : Sto) : F_raw_worth [.int i, .int e] S = rQ ((i : Rat) * pw 10 e) S := by
  have p := e_p10 (e := e) (by omega)
  obtain ⟨b1, b2⟩ := pw_sz he
  have m := fun S => mul_sm (i := i) (j := (pw 10 e).num) (S := S) (Nat.le_trans hi (by decide +kernel)) (Nat.le_trans b1 (by decide +kernel))
  have md := fun S => e_made (a := i * (pw 10 e).num) (b := ((pw 10 e).den : Int)) (S := S) (by have := (pw 10 e).den_nz; omega) (by rw [Int.natAbs_natCast]; exact Nat.le_trans b2 (by decide +kernel))
  rw [scale_is] at md
  generalize pw 10 e = q at *
  have ev : F_raw_worth [.int i, .int e] S = endOf (sE (F_made [.int (i * q.num), .int (q.den : Int)] S) [some (.int i), some (.int e), some (eQ q)] fun v S1 => .rt v S1) := by
    simp [F_raw_worth, d_raw_worth, runF, startP, endOf, dRet, dRetN, dIf, dIfS, dB, dBin, dUn, dV, dC, sE, asB, dSeq, dSet, dPar, dPar3, dAsg, dExpr, dAnd, dOr, dNot, bAnd, bOr, bNot, dTru, dCB, dCons, dNil, dTup, dLst, dChain, dPass, fCmpI, fIsN, gTp, gsCons, gsNil, gNm, mkTup, dSl, dPart, dNoPart, lim, iLt, iLe, iGt, iGe, p, m, ix_q0, ix_q1]
  rw [ev, md]
  unfold rQ
  split <;> rfl
theorem e_txt {l : List Nat} (hl : l.length ≤ 300) (S : Sto) : F_check_text [tS l] S = .ok .non S := by
  have ln := fun S => tlen (l := l) (S := S) (by omega)
  have i : ∀ S, fIsi [tS l, .ty "str"] S = .ok (.bl true) S := fun S => rfl
  have c : ¬ (300 : Int) < (l.length : Int) := by omega
  simp [F_check_text, d_check_text, runF, startP, endOf, dRet, dRetN, dIf, dIfS, dB, dBin, dUn, dV, dC, sE, asB, dSeq, dSet, dPar, dPar3, dAsg, dExpr, dAnd, dOr, dNot, bAnd, bOr, bNot, dTru, dCB, dCons, dNil, dTup, dLst, dChain, dPass, fCmpI, fIsN, gTp, gsCons, gsNil, gNm, mkTup, dSl, dPart, dNoPart, lim, iLt, iLe, iGt, iGe, i, ln, c, truP]
def rdR (S : Sto) : PR → Res PV
  | .bad i => exB i S
  | .ok i e => rQ ((i : Rat) * pw 10 e) S
theorem e_read {l : List Nat} (as : AS l) (hl : l.length ≤ 300) (S : Sto) : F_read_exact [tS l] S = rdR S (pr l) := by
  have ct := e_txt hl
  have rr := e_raw_read as hl
  cases q : pr l with
  | bad i =>
    rw [q] at rr
    simp only [prR, exB] at rr
    simp [F_read_exact, d_read_exact, runF, startP, endOf, dRet, dRetN, dIf, dIfS, dB, dBin, dUn, dV, dC, sE, asB, dSeq, dSet, dPar, dPar3, dAsg, dExpr, dAnd, dOr, dNot, bAnd, bOr, bNot, dTru, dCB, dCons, dNil, dTup, dLst, dChain, dPass, fCmpI, fIsN, gTp, gsCons, gsNil, gNm, mkTup, dSl, dPart, dNoPart, lim, iLt, iLe, iGt, iGe, ct, rr, rdR, exB]
  | ok i e =>
    rw [q] at rr
    obtain ⟨bi, be⟩ := pr_bd q
    have w := e_worth (i := i) (e := e) (Nat.le_trans (Nat.le_of_lt bi) (Nat.pow_le_pow_right (by decide) hl)) (by omega)
    simp only [prR] at rr
    have ev : F_read_exact [tS l] S = endOf (sE (F_raw_worth [.int i, .int e] S) [some (tS l), some (.int i), some (.int e)] fun v S1 => .rt v S1) := by
      simp [F_read_exact, d_read_exact, runF, startP, endOf, dRet, dRetN, dIf, dIfS, dB, dBin, dUn, dV, dC, sE, asB, dSeq, dSet, dPar, dPar3, dAsg, dExpr, dAnd, dOr, dNot, bAnd, bOr, bNot, dTru, dCB, dCons, dNil, dTup, dLst, dChain, dPass, fCmpI, fIsN, gTp, gsCons, gsNil, gNm, mkTup, dSl, dPart, dNoPart, lim, iLt, iLe, iGt, iGe, ct, rr]
    rw [ev, w]
    show _ = rQ ((i : Rat) * pw 10 e) S
    unfold rQ
    split <;> rfl
end G58
end
section
set_option Elab.async false
set_option linter.all false
set_option maxRecDepth 100000
set_option maxHeartbeats 8000000
set_option exponentiation.threshold 5000
namespace G58
open PySem PySem.Spec PyProof.Rows L2 Mi Ra Tx
/-! ### the law's own fractions -/
def lfC : EnP → Sto → Res Bool := (dB (dBin (fCmpI iGt) (dV 2) (dC (.int 0))))
def lfB : EnP → Sto → SR := (dPar 2 3 (dCons (dBin fMod (dCB fInt (dCons (dV 3) (dNil))) (dV 2)) (dCons (dV 2) (dNil))))
theorem lf_loop {a0 a1 : Option PV} : ∀ (n x y : Nat) (S : Sto), x < n → whileP lfC lfB n [a0, a1, some (.int x), some (.int y)] S = .nx [a0, a1, some (.int 0), some (.int (Nat.gcd x y))] S := by
  intro n
  induction n with
  | zero => intro x y S h; omega
  | succ n ih =>
    intro x y S h
    rw [whileP]
    by_cases hx : x = 0
    · subst hx
      simp [lfC, runF, startP, endOf, dRet, dRetN, dIf, dIfS, dB, dBin, dUn, dV, dC, sE, asB, dSeq, dSet, dPar, dPar3, dAsg, dExpr, dAnd, dOr, dNot, bAnd, bOr, bNot, dTru, dCB, dCons, dNil, dTup, dLst, dChain, dPass, fCmpI, fIsN, gTp, gsCons, gsNil, gNm, mkTup, dSl, dPart, dNoPart, lim, iLt, iLe, iGt, iGe]
    · have hp : (0 : Int) < (x : Int) := by omega
      have e : fMod (.int y) (.int x) S = .ok (.int ((y % x : Nat) : Int)) S := by rw [mod_sm hp, fmod_nat]
      have lt := Nat.mod_lt y (by omega : 0 < x)
      have step := ih (y % x) x S (by omega)
      have hg : Nat.gcd (y % x) x = Nat.gcd x y := by rw [Nat.gcd_rec x y]
      have c : lfC [a0, a1, some (.int x), some (.int y)] S = .ok true S := by simp [lfC, runF, startP, endOf, dRet, dRetN, dIf, dIfS, dB, dBin, dUn, dV, dC, sE, asB, dSeq, dSet, dPar, dPar3, dAsg, dExpr, dAnd, dOr, dNot, bAnd, bOr, bNot, dTru, dCB, dCons, dNil, dTup, dLst, dChain, dPass, fCmpI, fIsN, gTp, gsCons, gsNil, gNm, mkTup, dSl, dPart, dNoPart, lim, iLt, iLe, iGt, iGe, hp]; omega
      have d : lfB [a0, a1, some (.int x), some (.int y)] S = .nx [a0, a1, some (.int ((y % x : Nat) : Int)), some (.int x)] S := by
        simp only [lfB, runF, startP, endOf, dRet, dRetN, dIf, dIfS, dB, dBin, dUn, dV, dC, sE, asB, dSeq, dSet, dPar, dPar3, dAsg, dExpr, dAnd, dOr, dNot, bAnd, bOr, bNot, dTru, dCB, dCons, dNil, dTup, dLst, dChain, dPass, fCmpI, fIsN, gTp, gsCons, gsNil, gNm, mkTup, dSl, dPart, dNoPart, lim, iLt, iLe, iGt, iGe, List.getElem?_cons_succ, List.getElem?_cons_zero, Res.bind_ok, w_int, e, List.set_cons_zero, List.set_cons_succ]
      rw [c]
      simp only [sE, if_true, d, step, hg]
theorem l_frac {a b : Int} {S : Sto} (hb : 0 < b) (ha : a.natAbs ≤ 10 ^ 601) (h : b.natAbs ≤ 10 ^ 601) : F_law_frac_L [.int a, .int b] S = .ok (eQ (Rat.divInt a b)) S := by
  have ab : (if a < 0 then -a else a) = (a.natAbs : Int) := by split <;> omega
  have l := fun S => lf_loop (a0 := some (.int a)) (a1 := some (.int b)) fuel a.natAbs b.natAbs S (fuel_big ha)
  have gg : ((Nat.gcd a.natAbs b.natAbs : Nat) : Int) = ((Int.gcd a b : Nat) : Int) := rfl
  rw [gg] at l
  have nab : ((b.natAbs : Nat) : Int) = b := by omega
  rw [nab] at l
  obtain ⟨g0, g1⟩ := gcd_sm (a := a) (by omega) h
  have dv : ∀ i S, fDiv (.int i) (.int ((Int.gcd a b : Nat) : Int)) S = .ok (.int (i.fdiv ((Int.gcd a b : Nat) : Int))) S := fun i S => div_sm g0 g1
  have e : PV.tup [.int (a.fdiv (Int.gcd a b)), .int (b.fdiv (Int.gcd a b))] = eQ (Rat.divInt a b) := by
    unfold eQ; rw [num_div hb, den_div hb]
  have dd : d_law_frac_L = dSeq (dPar 2 3 (dCons (dCB fAbs (dCons (dV 0) (dNil))) (dCons (dV 1) (dNil)))) (dSeq (whileP lfC lfB fuel) (dRet (dTup (dCons (dBin fDiv (dV 0) (dV 3)) (dCons (dBin fDiv (dV 1) (dV 3)) (dNil)))))) := rfl
  simp [F_law_frac_L, dd, runF, startP, endOf, dRet, dRetN, dIf, dIfS, dB, dBin, dUn, dV, dC, sE, asB, dSeq, dSet, dPar, dPar3, dAsg, dExpr, dAnd, dOr, dNot, bAnd, bOr, bNot, dTru, dCB, dCons, dNil, dTup, dLst, dChain, dPass, fCmpI, fIsN, gTp, gsCons, gsNil, gNm, mkTup, dSl, dPart, dNoPart, lim, iLt, iLe, iGt, iGe, w_abs, ab, l, dv, e]
theorem l_mulw {i e : Int} {S : Sto} (hi : i.natAbs ≤ 10 ^ 300) (he : e.natAbs ≤ 300) : F_law_mul_L [.tup [.int i, .int 1], eQ (pw 10 e)] S = .ok (eQ ((i : Rat) * pw 10 e)) S := by
  obtain ⟨b1, b2⟩ : (pw 10 e).num.natAbs ≤ 10 ^ 300 ∧ (pw 10 e).den ≤ 10 ^ 300 := by
    have b : 10 ^ e.natAbs ≤ 10 ^ 300 := Nat.pow_le_pow_right (by decide) he
    by_cases c : 0 ≤ e
    · obtain ⟨x, y⟩ := pw_nn (b := 10) c
      rw [x, y]
      exact ⟨by rw [Int.natAbs_natCast]; exact b, by decide +kernel⟩
    · obtain ⟨x, y⟩ := pw_ng (b := 10) (by decide) c
      rw [x]
      exact ⟨by decide +kernel, by omega⟩
  have dn : (1 : Int) * ((pw 10 e).den : Int) = ((pw 10 e).den : Int) := Int.one_mul _
  have s1 : (i * (pw 10 e).num).natAbs ≤ 10 ^ 601 := Nat.le_trans (mul_abs hi b1) (by decide +kernel)
  have s2 : ((pw 10 e).den : Int).natAbs ≤ 10 ^ 601 := by rw [Int.natAbs_natCast]; exact Nat.le_trans b2 (by decide +kernel)
  have l := fun S => l_frac (S := S) (den_p (pw 10 e)) s1 s2
  rw [scale_is] at l
  have m1 := fun S => mul_sm (i := i) (j := (pw 10 e).num) (S := S) (Nat.le_trans hi (by decide +kernel)) (Nat.le_trans b1 (by decide +kernel))
  have m2 := fun S => mul_sm (i := 1) (j := ((pw 10 e).den : Int)) (S := S) (by decide +kernel) (Nat.le_trans s2 (by decide +kernel))
  rw [dn] at m2
  generalize pw 10 e = q at *
  have i0 : ∀ S, fIx (.tup [.int i, .int 1]) (.int 0) S = .ok (.int i) S := fun S => rfl
  have i1 : ∀ S, fIx (.tup [.int i, .int 1]) (.int 1) S = .ok (.int 1) S := fun S => rfl
  simp [F_law_mul_L, d_law_mul_L, runF, startP, endOf, dRet, dRetN, dIf, dIfS, dB, dBin, dUn, dV, dC, sE, asB, dSeq, dSet, dPar, dPar3, dAsg, dExpr, dAnd, dOr, dNot, bAnd, bOr, bNot, dTru, dCB, dCons, dNil, dTup, dLst, dChain, dPass, fCmpI, fIsN, gTp, gsCons, gsNil, gNm, mkTup, dSl, dPart, dNoPart, lim, iLt, iLe, iGt, iGe, i0, i1, ix_q0, ix_q1, m1, m2, l]
/-! ### the law's own reading -/
def toC : EnP → Sto → Res Bool := (bAnd (dB (dBin (fCmpI iLt) (dV 1) (dCB fLen (dCons (dV 0) (dNil))))) (dB (dBin (fInS false) (dBin fIx (dV 0) (dV 1)) (dV 3))))
def toB : EnP → Sto → SR := (dSet 1 (dBin (fAdd false) (dV 1) (dC (.int 1))))
abbrev dgs : PV := .str ("0123456789" : Str)
theorem to_loop {l : List Nat} (hl : l.length ≤ 1000) {a2 a4 a5 a6 a7 a8 : Option PV} : ∀ (f i : Nat) (S : Sto), rn (l.drop i) < f → i ≤ l.length →
    whileP toC toB f [some (tS l), some (.int i), a2, some dgs, a4, a5, a6, a7, a8] S = .nx [some (tS l), some (.int ((i + rn (l.drop i) : Nat) : Int)), a2, some dgs, a4, a5, a6, a7, a8] S := by
  intro f
  induction f with
  | zero => intro i S h; omega
  | succ f ih =>
    intro i S h hi
    have ln := fun S => tlen (l := l) (S := S) hl
    rw [whileP]
    by_cases lt : i < l.length
    · have x := fun S => tix (S := S) lt hl
      have lt' : (i : Int) < (l.length : Int) := by omega
      have tn := fun S => tin l[i] S
      have c : toC [some (tS l), some (.int i), a2, some dgs, a4, a5, a6, a7, a8] S = .ok (isD l[i]) S := by
        simp [toC, runF, startP, endOf, dRet, dRetN, dIf, dIfS, dB, dBin, dUn, dV, dC, sE, asB, dSeq, dSet, dPar, dPar3, dAsg, dExpr, dAnd, dOr, dNot, bAnd, bOr, bNot, dTru, dCB, dCons, dNil, dTup, dLst, dChain, dPass, fCmpI, fIsN, gTp, gsCons, gsNil, gNm, mkTup, dSl, dPart, dNoPart, lim, iLt, iLe, iGt, iGe, ln, lt', x, tn]
      rw [c]
      cases d : isD l[i] with
      | true =>
        have e := rn_step lt d
        have b : toB [some (tS l), some (.int i), a2, some dgs, a4, a5, a6, a7, a8] S = .nx [some (tS l), some (.int ((i + 1 : Nat) : Int)), a2, some dgs, a4, a5, a6, a7, a8] S := by
          simp [toB, runF, startP, endOf, dRet, dRetN, dIf, dIfS, dB, dBin, dUn, dV, dC, sE, asB, dSeq, dSet, dPar, dPar3, dAsg, dExpr, dAnd, dOr, dNot, bAnd, bOr, bNot, dTru, dCB, dCons, dNil, dTup, dLst, dChain, dPass, fCmpI, fIsN, gTp, gsCons, gsNil, gNm, mkTup, dSl, dPart, dNoPart, lim, iLt, iLe, iGt, iGe, w_add]
        simp only [sE, b, if_true]
        rw [ih (i + 1) S (by omega) (by omega), e, show i + 1 + rn (l.drop (i + 1)) = i + (rn (l.drop (i + 1)) + 1) from by omega]
      | false =>
        have e := rn_none lt d
        simp only [sE, Bool.false_eq_true, if_false, e, Nat.add_zero]
    · have e := rn_end (l := l) (i := i) (by omega)
      have lt' : ¬ (i : Int) < (l.length : Int) := by omega
      have c : toC [some (tS l), some (.int i), a2, some dgs, a4, a5, a6, a7, a8] S = .ok false S := by
        simp [toC, runF, startP, endOf, dRet, dRetN, dIf, dIfS, dB, dBin, dUn, dV, dC, sE, asB, dSeq, dSet, dPar, dPar3, dAsg, dExpr, dAnd, dOr, dNot, bAnd, bOr, bNot, dTru, dCB, dCons, dNil, dTup, dLst, dChain, dPass, fCmpI, fIsN, gTp, gsCons, gsNil, gNm, mkTup, dSl, dPart, dNoPart, lim, iLt, iLe, iGt, iGe, ln, lt']
      rw [c]
      simp only [sE, Bool.false_eq_true, if_false, e, Nat.add_zero]
theorem to_all {l : List Nat} (hl : l.length ≤ 1000) {a2 a4 a5 a6 a7 a8 : Option PV} {i : Nat} (hi : i ≤ l.length) (S : Sto) :
    whileP toC toB fuel [some (tS l), some (.int i), a2, some dgs, a4, a5, a6, a7, a8] S = .nx [some (tS l), some (.int ((i + rn (l.drop i) : Nat) : Int)), a2, some dgs, a4, a5, a6, a7, a8] S :=
  to_loop hl fuel i S (big_fuel (Nat.le_trans (rn_le' l i) (by omega))) hi
/-- is the one sign at h the sign c -/
theorem at_is {l : List Nat} (as : AS l) (hl : l.length ≤ 1000) {h : Nat} (hh : h ≤ l.length) (c : Nat) (hc : c < 128) (s : Str) (es : (.str s : PV) = tS [c]) : ∃ t, (∀ S, fSl false (tS l) (some (h : Int)) (some ((h : Int) + 1)) S = .ok (.str t) S) ∧ ∀ S, fEq false (.str t) (.str s) S = .ok (.bl (decide (l[h]? = some c))) S := by
  refine ⟨sS ((l.drop h).take 1), fun S => ?_, fun S => ?_⟩
  · have := tsl_ab (l := l) (a := h) (b := h + 1) (S := S) (by omega) hh hl
    rw [show h + 1 - h = 1 from by omega] at this
    exact this
  · rw [es]
    have q := teq false ((as.drop h).take 1) (as1 hc) S
    rw [one_at] at q
    exact q
def tdR (S : Sto) : PR → Res PV
  | .bad i => .ok (.int (i : Nat)) S
  | .ok i e => .ok (eQ ((i : Rat) * pw 10 e)) S
def toE1 : EnP → Sto → SR := (dIfS (dB (dBin (fEq false) (dSl false (dV 0) (dPart (dV 1)) (dPart (dBin (fAdd false) (dV 1) (dC (.int 1))))) (dC (.str ("e" : Str))))) (dSeq (dPar 1 8 (dCons (dBin (fAdd false) (dV 1) (dC (.int 1))) (dCons (dC (.bl false)) (dNil)))) (dSeq (dIfS (dB (dBin (fEq false) (dSl false (dV 0) (dPart (dV 1)) (dPart (dBin (fAdd false) (dV 1) (dC (.int 1))))) (dC (.str ("-" : Str))))) (dPar 1 8 (dCons (dBin (fAdd false) (dV 1) (dC (.int 1))) (dCons (dC (.bl true)) (dNil)))) (dPass)) (dSeq (dSet 4 (dV 1)) (dSeq (whileP (bAnd (dB (dBin (fCmpI iLt) (dV 1) (dCB fLen (dCons (dV 0) (dNil))))) (dB (dBin (fInS false) (dBin fIx (dV 0) (dV 1)) (dV 3)))) (dSet 1 (dBin (fAdd false) (dV 1) (dC (.int 1)))) fuel) (dSeq (dIfS (bOr (dB (dBin (fEq false) (dV 1) (dV 4))) (dB (dBin (fCmpI iLt) (dV 1) (dCB fLen (dCons (dV 0) (dNil)))))) (dRet (dV 1)) (dPass)) (dSeq (dIfS (bOr (dB (dBin (fCmpI iGt) (dV 1) (dBin (fAdd false) (dV 4) (dC (.int 3))))) (dB (dBin (fCmpI iGt) (dCB fIntS (dCons (dSl false (dV 0) (dPart (dV 4)) (dPart (dV 1))) (dNil))) (dC (.int 140))))) (dRet (dV 4)) (dPass)) (dSet 6 (dBin (fAdd false) (dV 6) (dIf (dTru (dV 8)) (dBin fSub (dC (.int 0)) (dCB fIntS (dCons (dSl false (dV 0) (dPart (dV 4)) (dPart (dV 1))) (dNil)))) (dCB fIntS (dCons (dSl false (dV 0) (dPart (dV 4)) (dPart (dV 1))) (dNil)))))))))))) (dPass))
def toT : EnP → Sto → SR := dSeq toE1 (dSeq (dIfS (dB (dBin (fCmpI iLt) (dV 1) (dCB fLen (dCons (dV 0) (dNil))))) (dRet (dV 1)) (dPass)) (dRet (dCB F_law_mul_L (dCons (dTup (dCons (dBin (fMul false) (dV 2) (dCB fIntS (dCons (dV 5) (dNil)))) (dCons (dC (.int 1)) (dNil)))) (dCons (dCB F_law_power_L (dCons (dC (.int 10)) (dCons (dV 6) (dNil)))) (dNil))))))
theorem l_m : (.str ("-" : Str) : PV) = tS [45] := by kernel_rfl
theorem l_p : (.str ("." : Str) : PV) = tS [46] := by kernel_rfl
theorem l_e : (.str ("e" : Str) : PV) = tS [101] := by kernel_rfl
theorem to_last {l : List Nat} (hl : l.length ≤ 100) {neg : Bool} {D : List Nat} {e : Int} {h : Nat} (eh : h = l.length) (dg : AD D) (ne : D ≠ []) (lD : D.length ≤ 100) (he : e.natAbs ≤ 300) {a4 a7 a8 : Option PV} (S : Sto) :
    endOf ((dSeq (dIfS (dB (dBin (fCmpI iLt) (dV 1) (dCB fLen (dCons (dV 0) (dNil))))) (dRet (dV 1)) (dPass)) (dRet (dCB F_law_mul_L (dCons (dTup (dCons (dBin (fMul false) (dV 2) (dCB fIntS (dCons (dV 5) (dNil)))) (dCons (dC (.int 1)) (dNil)))) (dCons (dCB F_law_power_L (dCons (dC (.int 10)) (dCons (dV 6) (dNil)))) (dNil)))))) [some (tS l), some (.int (h : Nat)), some (.int (sgn neg 1)), some dgs, a4, some (tS D), some (.int e), a7, a8] S) = .ok (eQ (((sgn neg (val D : Nat) : Int) : Rat) * pw 10 e)) S := by
  subst eh
  have ln := fun S => tlen (l := l) (S := S) (by omega)
  have it := fun S => tint (l := D) (S := S) dg ne (by omega)
  have mu := fun S => sgn_mul (neg := neg) (S := S) (val_sm dg (by omega))
  have p := l_p10 (e := e) (by omega)
  have vb := val_lt dg
  have m := fun S => l_mulw (i := sgn neg (val D : Nat)) (e := e) (S := S) (by rw [sgn_abs]; exact Nat.le_trans (Nat.le_of_lt vb) (Nat.pow_le_pow_right (by decide) (by omega))) he
  generalize val D = v at *
  generalize pw 10 e = q at *
  simp [runF, startP, endOf, dRet, dRetN, dIf, dIfS, dB, dBin, dUn, dV, dC, sE, asB, dSeq, dSet, dPar, dPar3, dAsg, dExpr, dAnd, dOr, dNot, bAnd, bOr, bNot, dTru, dCB, dCons, dNil, dTup, dLst, dChain, dPass, fCmpI, fIsN, gTp, gsCons, gsNil, gNm, mkTup, dSl, dPart, dNoPart, lim, iLt, iLe, iGt, iGe, ln, it, mu, p, m]
end G58
end
section
set_option Elab.async false
set_option linter.all false
set_option maxRecDepth 100000
set_option maxHeartbeats 8000000
set_option exponentiation.threshold 5000
namespace G58
open PySem PySem.Spec PyProof.Rows L2 Mi Ra Tx
theorem ifS_t {c : EnP → Sto → Res Bool} {a b : EnP → Sto → SR} {ρ : EnP} {S S1 : Sto} (h : c ρ S = .ok true S1) : dIfS c a b ρ S = a ρ S1 := by
  unfold dIfS
  rw [h]
  rfl
/-- the exponent, as the law reads it -/
theorem to_exp {l : List Nat} (as : AS l) (hl : l.length ≤ 100) {sg a4 a5 a7 a8 : Option PV} {k : Int} {h : Nat} (c : l[h]? = some 101) (S : Sto) :
    toE1 [some (tS l), some (.int (h : Nat)), sg, some dgs, a4, a5, some (.int k), a7, a8] S =
      (match expo l (h + 1) with
      | .bad i => .rt (.int (i : Nat)) S
      | .ok e => .nx [some (tS l), some (.int (l.length : Nat)), sg, some dgs, some (.int ((if decide (l[h + 1]? = some 45) = true then h + 1 + 1 else h + 1 : Nat) : Int)), a5, some (.int (k + e)), a7, some (.bl (decide (l[h + 1]? = some 45)))] S) := by
  have hl' : l.length ≤ 1000 := by omega
  have ln := fun S => tlen (l := l) (S := S) hl'
  have lt := (List.getElem?_eq_some_iff.mp c).1
  obtain ⟨t1, ts1, te1⟩ := at_is as hl' (h := h) (by omega) 101 (by decide) "e" l_e
  rw [decide_eq_true c] at te1
  obtain ⟨t2, ts2, te2⟩ := at_is as hl' (h := h + 1) (by omega) 45 (by decide) "-" l_m
  have ad1 : ∀ S, fAdd false (.int (h : Int)) (.int 1) S = .ok (.int ((h + 1 : Nat) : Int)) S := fun S => by rw [w_add]; rfl
  unfold expo
  dsimp only
  have hp1 : h + 1 ≤ l.length := by omega
  have hg0 : (if decide (l[h + 1]? = some 45) = true then h + 1 + 1 else h + 1) ≤ l.length := by
    by_cases q : l[h + 1]? = some 45
    · have := (List.getElem?_eq_some_iff.mp q).1
      simp [q]; omega
    · simp [q]; omega
  have ad2 : ∀ S, fAdd false (.int ((h + 1 : Nat) : Int)) (.int 1) S = .ok (.int ((h + 1 + 1 : Nat) : Int)) S := fun S => by rw [w_add]; rfl
  have es1 : ((h : Int) + 1) = ((h + 1 : Nat) : Int) := rfl
  have es2 : (((h + 1 : Nat) : Int) + 1) = ((h + 1 + 1 : Nat) : Int) := rfl
  rw [es1] at ts1
  rw [es2] at ts2
  have dd : toE1 = dIfS (dB (dBin (fEq false) (dSl false (dV 0) (dPart (dV 1)) (dPart (dBin (fAdd false) (dV 1) (dC (.int 1))))) (dC (.str ("e" : Str))))) (dSeq (dPar 1 8 (dCons (dBin (fAdd false) (dV 1) (dC (.int 1))) (dCons (dC (.bl false)) (dNil)))) (dSeq (dIfS (dB (dBin (fEq false) (dSl false (dV 0) (dPart (dV 1)) (dPart (dBin (fAdd false) (dV 1) (dC (.int 1))))) (dC (.str ("-" : Str))))) (dPar 1 8 (dCons (dBin (fAdd false) (dV 1) (dC (.int 1))) (dCons (dC (.bl true)) (dNil)))) (dPass)) (dSeq (dSet 4 (dV 1)) (dSeq (whileP toC toB fuel) (dSeq (dIfS (bOr (dB (dBin (fEq false) (dV 1) (dV 4))) (dB (dBin (fCmpI iLt) (dV 1) (dCB fLen (dCons (dV 0) (dNil)))))) (dRet (dV 1)) (dPass)) (dSeq (dIfS (bOr (dB (dBin (fCmpI iGt) (dV 1) (dBin (fAdd false) (dV 4) (dC (.int 3))))) (dB (dBin (fCmpI iGt) (dCB fIntS (dCons (dSl false (dV 0) (dPart (dV 4)) (dPart (dV 1))) (dNil))) (dC (.int 140))))) (dRet (dV 4)) (dPass)) (dSet 6 (dBin (fAdd false) (dV 6) (dIf (dTru (dV 8)) (dBin fSub (dC (.int 0)) (dCB fIntS (dCons (dSl false (dV 0) (dPart (dV 4)) (dPart (dV 1))) (dNil)))) (dCB fIntS (dCons (dSl false (dV 0) (dPart (dV 4)) (dPart (dV 1))) (dNil)))))))))))) dPass := rfl
  generalize hneg : decide (l[h + 1]? = some 45) = neg at *
  generalize hp : h + 1 = p at *
  have s0 : (dB (dBin (fEq false) (dSl false (dV 0) (dPart (dV 1)) (dPart (dBin (fAdd false) (dV 1) (dC (.int 1))))) (dC (.str ("e" : Str))))) [some (tS l), some (.int (h : Nat)), sg, some dgs, a4, a5, some (.int k), a7, a8] S = .ok true S := by
    simp [runF, startP, endOf, dRet, dRetN, dIf, dIfS, dB, dBin, dUn, dV, dC, sE, asB, dSeq, dSet, dPar, dPar3, dAsg, dExpr, dAnd, dOr, dNot, bAnd, bOr, bNot, dTru, dCB, dCons, dNil, dTup, dLst, dChain, dPass, fCmpI, fIsN, gTp, gsCons, gsNil, gNm, mkTup, dSl, dPart, dNoPart, lim, iLt, iLe, iGt, iGe, ad1, ts1, te1]
  have s1 : (dPar 1 8 (dCons (dBin (fAdd false) (dV 1) (dC (.int 1))) (dCons (dC (.bl false)) (dNil)))) [some (tS l), some (.int (h : Nat)), sg, some dgs, a4, a5, some (.int k), a7, a8] S = .nx [some (tS l), some (.int (p : Nat)), sg, some dgs, a4, a5, some (.int k), a7, some (.bl false)] S := by
    simp [runF, startP, endOf, dRet, dRetN, dIf, dIfS, dB, dBin, dUn, dV, dC, sE, asB, dSeq, dSet, dPar, dPar3, dAsg, dExpr, dAnd, dOr, dNot, bAnd, bOr, bNot, dTru, dCB, dCons, dNil, dTup, dLst, dChain, dPass, fCmpI, fIsN, gTp, gsCons, gsNil, gNm, mkTup, dSl, dPart, dNoPart, lim, iLt, iLe, iGt, iGe, ad1]
  have s2 : (dIfS (dB (dBin (fEq false) (dSl false (dV 0) (dPart (dV 1)) (dPart (dBin (fAdd false) (dV 1) (dC (.int 1))))) (dC (.str ("-" : Str))))) (dPar 1 8 (dCons (dBin (fAdd false) (dV 1) (dC (.int 1))) (dCons (dC (.bl true)) (dNil)))) (dPass)) [some (tS l), some (.int (p : Nat)), sg, some dgs, a4, a5, some (.int k), a7, some (.bl false)] S = .nx [some (tS l), some (.int ((if neg = true then p + 1 else p : Nat) : Int)), sg, some dgs, a4, a5, some (.int k), a7, some (.bl neg)] S := by
    generalize hpp : p + 1 = pp at *
    cases neg <;> simp [runF, startP, endOf, dRet, dRetN, dIf, dIfS, dB, dBin, dUn, dV, dC, sE, asB, dSeq, dSet, dPar, dPar3, dAsg, dExpr, dAnd, dOr, dNot, bAnd, bOr, bNot, dTru, dCB, dCons, dNil, dTup, dLst, dChain, dPass, fCmpI, fIsN, gTp, gsCons, gsNil, gNm, mkTup, dSl, dPart, dNoPart, lim, iLt, iLe, iGt, iGe, ad2, ts2, te2]
  generalize (if neg = true then p + 1 else p : Nat) = b at *
  have s3 : (dSet 4 (dV 1)) [some (tS l), some (.int (b : Nat)), sg, some dgs, a4, a5, some (.int k), a7, some (.bl neg)] S = .nx [some (tS l), some (.int (b : Nat)), sg, some dgs, some (.int (b : Nat)), a5, some (.int k), a7, some (.bl neg)] S := by
    simp [runF, startP, endOf, dRet, dRetN, dIf, dIfS, dB, dBin, dUn, dV, dC, sE, asB, dSeq, dSet, dPar, dPar3, dAsg, dExpr, dAnd, dOr, dNot, bAnd, bOr, bNot, dTru, dCB, dCons, dNil, dTup, dLst, dChain, dPass, fCmpI, fIsN, gTp, gsCons, gsNil, gNm, mkTup, dSl, dPart, dNoPart, lim, iLt, iLe, iGt, iGe]
  have s4 := to_all hl' (a2 := sg) (a4 := some (.int (b : Nat))) (a5 := a5) (a6 := some (.int k)) (a7 := a7) (a8 := some (.bl neg)) hg0 S
  rw [dd, ifS_t s0]
  simp only [dSeq, s1, s2, s3, s4]
  clear s0 s1 s2 s3 s4 dd
  have lim_ := rn_le' l b
  generalize hm : rn (l.drop b) = m at *
  by_cases m0 : m = 0
  · subst m0
    have z : ∀ S, fEq false (.int ((b : Nat) : Int)) (.int (b : Nat)) S = .ok (.bl true) S := fun S => by rw [w_eq]; simp
    rw [if_pos rfl]
    simp only [Nat.add_zero]
    simp [runF, startP, endOf, dRet, dRetN, dIf, dIfS, dB, dBin, dUn, dV, dC, sE, asB, dSeq, dSet, dPar, dPar3, dAsg, dExpr, dAnd, dOr, dNot, bAnd, bOr, bNot, dTru, dCB, dCons, dNil, dTup, dLst, dChain, dPass, fCmpI, fIsN, gTp, gsCons, gsNil, gNm, mkTup, dSl, dPart, dNoPart, lim, iLt, iLe, iGt, iGe, z]
  rw [if_neg m0]
  have z : ∀ S, fEq false (.int ((b + m : Nat) : Int)) (.int (b : Nat)) S = .ok (.bl false) S := fun S => by rw [w_eq, beq_eq_false_iff_ne.mpr (by omega : ((b + m : Nat) : Int) ≠ (b : Int))]; rfl
  by_cases lt2 : b + m < l.length
  · have lt' : ((b + m : Nat) : Int) < (l.length : Int) := by omega
    rw [if_pos lt2]
    generalize b + m = bm at *
    simp [runF, startP, endOf, dRet, dRetN, dIf, dIfS, dB, dBin, dUn, dV, dC, sE, asB, dSeq, dSet, dPar, dPar3, dAsg, dExpr, dAnd, dOr, dNot, bAnd, bOr, bNot, dTru, dCB, dCons, dNil, dTup, dLst, dChain, dPass, fCmpI, fIsN, gTp, gsCons, gsNil, gNm, mkTup, dSl, dPart, dNoPart, lim, iLt, iLe, iGt, iGe, z, ln, lt']
  rw [if_neg lt2]
  have be : b + m = l.length := by omega
  have dg : AD (l.drop b) := rn_all (by rw [hm]; exact lt2)
  have ne : l.drop b ≠ [] := fun e => m0 (by rw [← hm, e]; rfl)
  have sl := fun S => tsl_ab (l := l) (a := b) (b := b + m) (S := S) (by omega) hg0 hl'
  rw [show b + m - b = m from by omega, show (l.drop b).take m = l.drop b from List.take_of_length_le (by rw [List.length_drop]; omega)] at sl
  have it := fun S => tint (S := S) dg ne (by rw [List.length_drop]; omega)
  have m3i : (((b + m : Nat) : Int) > (b : Int) + 3) ↔ 3 < m := by omega
  have ad3 : ∀ S, fAdd false (.int (b : Int)) (.int 3) S = .ok (.int ((b : Int) + 3)) S := fun S => by rw [w_add]
  have ltn : ¬ ((b + m : Nat) : Int) < (l.length : Int) := by omega
  have eb : ((b + m : Nat) : Int) = (l.length : Int) := by omega
  generalize hv : val (l.drop b) = v at *
  generalize l.drop b = db at *
  generalize hbm : ((b + m : Nat) : Int) = bm at *
  by_cases m3 : 3 < m
  · have m3' : (b : Int) + 3 < bm := m3i.mpr m3
    rw [if_pos (Or.inl m3)]
    simp [runF, startP, endOf, dRet, dRetN, dIf, dIfS, dB, dBin, dUn, dV, dC, sE, asB, dSeq, dSet, dPar, dPar3, dAsg, dExpr, dAnd, dOr, dNot, bAnd, bOr, bNot, dTru, dCB, dCons, dNil, dTup, dLst, dChain, dPass, fCmpI, fIsN, gTp, gsCons, gsNil, gNm, mkTup, dSl, dPart, dNoPart, lim, iLt, iLe, iGt, iGe, z, ln, ltn, ad3, m3']
  have m3' : ¬ (b : Int) + 3 < bm := fun q => m3 (m3i.mp q)
  by_cases v3 : 140 < v
  · have v3' : (140 : Int) < (v : Int) := by omega
    rw [if_pos (Or.inr v3)]
    simp [runF, startP, endOf, dRet, dRetN, dIf, dIfS, dB, dBin, dUn, dV, dC, sE, asB, dSeq, dSet, dPar, dPar3, dAsg, dExpr, dAnd, dOr, dNot, bAnd, bOr, bNot, dTru, dCB, dCons, dNil, dTup, dLst, dChain, dPass, fCmpI, fIsN, gTp, gsCons, gsNil, gNm, mkTup, dSl, dPart, dNoPart, lim, iLt, iLe, iGt, iGe, z, ln, ltn, ad3, m3', sl, it, v3']
  have v3' : ¬ (140 : Int) < (v : Int) := by omega
  rw [if_neg (by omega)]
  have su : ∀ S, fSub (.int 0) (.int (v : Int)) S = .ok (.int (-(v : Int))) S := fun S => by rw [w_sub]; simp
  have aa : ∀ i j S, fAdd false (.int i) (.int j) S = .ok (.int (i + j)) S := fun i j S => w_add
  subst eb
  cases neg <;> simp [runF, startP, endOf, dRet, dRetN, dIf, dIfS, dB, dBin, dUn, dV, dC, sE, asB, dSeq, dSet, dPar, dPar3, dAsg, dExpr, dAnd, dOr, dNot, bAnd, bOr, bNot, dTru, dCB, dCons, dNil, dTup, dLst, dChain, dPass, fCmpI, fIsN, gTp, gsCons, gsNil, gNm, mkTup, dSl, dPart, dNoPart, lim, iLt, iLe, iGt, iGe, z, ln, ltn, ad3, m3', sl, it, v3', su, aa, truP, sgn]
theorem to_fin {l : List Nat} (as : AS l) (hl : l.length ≤ 100) {neg : Bool} {D : List Nat} {k h : Nat} (hh : h ≤ l.length) (dg : AD D) (ne : D ≠ []) (lD : D.length ≤ 100) (lk : k ≤ 100) {a4 a7 a8 : Option PV} (S : Sto) :
    endOf (toT [some (tS l), some (.int (h : Nat)), some (.int (sgn neg 1)), some dgs, a4, some (tS D), some (.int (0 - (k : Int))), a7, a8] S) = tdR S (fin l neg D k h) := by
  have hl' : l.length ≤ 1000 := by omega
  have ln := fun S => tlen (l := l) (S := S) hl'
  unfold fin
  by_cases lt : h < l.length
  · rw [if_pos lt]
    by_cases c : l[h]? = some 101
    · rw [if_pos c]
      have ex := to_exp as hl (sg := some (.int (sgn neg 1))) (a4 := a4) (a5 := some (tS D)) (a7 := a7) (a8 := a8) (k := 0 - (k : Int)) c S
      cases q : expo l (h + 1) with
      | bad i =>
        rw [q] at ex
        unfold toT
        simp only [dSeq, ex]
        rfl
      | ok e =>
        rw [q] at ex
        have be := expo_bd q
        have la := to_last hl (neg := neg) (e := 0 - (k : Int) + e) (h := l.length) rfl dg ne lD (by omega) (a4 := some (.int ((if decide (l[h + 1]? = some 45) = true then h + 1 + 1 else h + 1 : Nat) : Int))) (a7 := a7) (a8 := some (.bl (decide (l[h + 1]? = some 45)))) S
        unfold toT
        have e1 : 0 - (k : Int) + e = e - (k : Int) := by omega
        dsimp only at ex
        rw [e1] at la ex
        simp only [dSeq] at la ⊢
        simp only [ex, la]
        rfl
    · rw [if_neg c]
      obtain ⟨t1, ts1, te1⟩ := at_is as hl' (h := h) hh 101 (by decide) "e" l_e
      rw [decide_eq_false c] at te1
      have ad1 : ∀ S, fAdd false (.int (h : Int)) (.int 1) S = .ok (.int ((h : Int) + 1)) S := fun S => w_add
      have lt' : (h : Int) < (l.length : Int) := by omega
      have s : toE1 [some (tS l), some (.int (h : Nat)), some (.int (sgn neg 1)), some dgs, a4, some (tS D), some (.int (0 - (k : Int))), a7, a8] S = .nx [some (tS l), some (.int (h : Nat)), some (.int (sgn neg 1)), some dgs, a4, some (tS D), some (.int (0 - (k : Int))), a7, a8] S := by
        generalize (0 - (k : Int)) = kk
        simp [toE1, runF, startP, endOf, dRet, dRetN, dIf, dIfS, dB, dBin, dUn, dV, dC, sE, asB, dSeq, dSet, dPar, dPar3, dAsg, dExpr, dAnd, dOr, dNot, bAnd, bOr, bNot, dTru, dCB, dCons, dNil, dTup, dLst, dChain, dPass, fCmpI, fIsN, gTp, gsCons, gsNil, gNm, mkTup, dSl, dPart, dNoPart, lim, iLt, iLe, iGt, iGe, ad1, ts1, te1]
      unfold toT
      simp only [dSeq, s]
      simp [runF, startP, endOf, dRet, dRetN, dIf, dIfS, dB, dBin, dUn, dV, dC, sE, asB, dSeq, dSet, dPar, dPar3, dAsg, dExpr, dAnd, dOr, dNot, bAnd, bOr, bNot, dTru, dCB, dCons, dNil, dTup, dLst, dChain, dPass, fCmpI, fIsN, gTp, gsCons, gsNil, gNm, mkTup, dSl, dPart, dNoPart, lim, iLt, iLe, iGt, iGe, ln, lt', tdR]
  · rw [if_neg lt]
    have eh : h = l.length := by omega
    obtain ⟨t1, ts1, te1⟩ := at_is as hl' (h := h) hh 101 (by decide) "e" l_e
    rw [decide_eq_false (by rw [List.getElem?_eq_none (by omega)]; simp)] at te1
    have ad1 : ∀ S, fAdd false (.int (h : Int)) (.int 1) S = .ok (.int ((h : Int) + 1)) S := fun S => w_add
    have s : toE1 [some (tS l), some (.int (h : Nat)), some (.int (sgn neg 1)), some dgs, a4, some (tS D), some (.int (0 - (k : Int))), a7, a8] S = .nx [some (tS l), some (.int (h : Nat)), some (.int (sgn neg 1)), some dgs, a4, some (tS D), some (.int (0 - (k : Int))), a7, a8] S := by
      generalize (0 - (k : Int)) = kk
      simp [toE1, runF, startP, endOf, dRet, dRetN, dIf, dIfS, dB, dBin, dUn, dV, dC, sE, asB, dSeq, dSet, dPar, dPar3, dAsg, dExpr, dAnd, dOr, dNot, bAnd, bOr, bNot, dTru, dCB, dCons, dNil, dTup, dLst, dChain, dPass, fCmpI, fIsN, gTp, gsCons, gsNil, gNm, mkTup, dSl, dPart, dNoPart, lim, iLt, iLe, iGt, iGe, ad1, ts1, te1]
    have la := to_last hl (neg := neg) (e := 0 - (k : Int)) eh dg ne lD (by omega) (a4 := a4) (a7 := a7) (a8 := a8) S
    unfold toT
    simp only [dSeq] at la ⊢
    simp only [s, la]
    rfl
end G58
end
section
set_option Elab.async false
set_option linter.all false
set_option maxRecDepth 100000
set_option maxHeartbeats 8000000
set_option exponentiation.threshold 5000
namespace G58
open PySem PySem.Spec PyProof.Rows L2 Mi Ra Tx
def toD : EnP → Sto → SR := (dIfS (dB (dBin (fEq false) (dSl false (dV 0) (dPart (dV 1)) (dPart (dBin (fAdd false) (dV 1) (dC (.int 1))))) (dC (.str ("." : Str))))) (dSeq (dSet 7 (dBin (fAdd false) (dV 1) (dC (.int 1)))) (dSeq (dSet 1 (dV 7)) (dSeq (whileP (bAnd (dB (dBin (fCmpI iLt) (dV 1) (dCB fLen (dCons (dV 0) (dNil))))) (dB (dBin (fInS false) (dBin fIx (dV 0) (dV 1)) (dV 3)))) (dSet 1 (dBin (fAdd false) (dV 1) (dC (.int 1)))) fuel) (dSeq (dIfS (dB (dBin (fEq false) (dV 1) (dV 7))) (dRet (dV 1)) (dPass)) (dPar 5 6 (dCons (dBin (fAdd false) (dV 5) (dSl false (dV 0) (dPart (dV 7)) (dPart (dV 1)))) (dCons (dBin fSub (dV 7) (dV 1)) (dNil)))))))) (dPass))
theorem ifS_f {c : EnP → Sto → Res Bool} {a b : EnP → Sto → SR} {ρ : EnP} {S S1 : Sto} (h : c ρ S = .ok false S1) : dIfS c a b ρ S = b ρ S1 := by
  unfold dIfS
  rw [h]
  rfl
theorem l_told {l : List Nat} (as : AS l) (hl : l.length ≤ 100) (S : Sto) : F_law_told_text_L [tS l] S = tdR S (pr l) := by
  have hl' : l.length ≤ 1000 := by omega
  have ln := fun S => tlen (l := l) (S := S) hl'
  obtain ⟨t0, ts0, te0⟩ := is_neg as hl' S
  have te0 := te0 false
  simp only [Bool.false_eq_true, if_false] at te0
  have is : ∀ S, fIsi [tS l, .ty "str"] S = .ok (.bl true) S := fun S => rfl
  have c3 : ¬ (300 : Int) < (l.length : Int) := by omega
  have dd : d_law_told_text_L = dSeq (dIfS (bNot (dTru (dCB fIsi (dCons (dV 0) (dCons (dC (.ty "str")) (dNil)))))) (dRet (dUn fNeg (dC (.int 1)))) (dPass)) (dSeq (dIfS (dB (dBin (fCmpI iGt) (dCB fLen (dCons (dV 0) (dNil))) (dC (.int 300)))) (dRet (dC (.int 300))) (dPass)) (dSeq (dAsg (dTup (dCons (dC (.int 0)) (dCons (dC (.int 1)) (dCons (dC (.str ("0123456789" : Str))) (dNil))))) (gTp 3 (gsCons (gNm 1) (gsCons (gNm 2) (gsCons (gNm 3) (gsNil)))))) (dSeq (dIfS (dB (dBin (fEq false) (dSl false (dV 0) (dNoPart) (dPart (dC (.int 1)))) (dC (.str ("-" : Str))))) (dAsg (dTup (dCons (dC (.int 1)) (dCons (dUn fNeg (dC (.int 1))) (dNil)))) (gTp 2 (gsCons (gNm 1) (gsCons (gNm 2) (gsNil))))) (dPass)) (dSeq (dSet 4 (dV 1)) (dSeq (whileP toC toB fuel) (dSeq (dIfS (dB (dBin (fEq false) (dV 1) (dV 4))) (dRet (dV 1)) (dPass)) (dSeq (dPar 5 6 (dCons (dSl false (dV 0) (dPart (dV 4)) (dPart (dV 1))) (dCons (dC (.int 0)) (dNil)))) (dSeq toD toT)))))))) := rfl
  have e0 : F_law_told_text_L [tS l] S = endOf (d_law_told_text_L [some (tS l), none, none, none, none, none, none, none, none] S) := rfl
  have s0 : (dIfS (bNot (dTru (dCB fIsi (dCons (dV 0) (dCons (dC (.ty "str")) (dNil)))))) (dRet (dUn fNeg (dC (.int 1)))) (dPass)) [some (tS l), none, none, none, none, none, none, none, none] S = .nx [some (tS l), none, none, none, none, none, none, none, none] S := by simp [runF, startP, endOf, dRet, dRetN, dIf, dIfS, dB, dBin, dUn, dV, dC, sE, asB, dSeq, dSet, dPar, dPar3, dAsg, dExpr, dAnd, dOr, dNot, bAnd, bOr, bNot, dTru, dCB, dCons, dNil, dTup, dLst, dChain, dPass, fCmpI, fIsN, gTp, gsCons, gsNil, gNm, mkTup, dSl, dPart, dNoPart, lim, iLt, iLe, iGt, iGe, is, truP]
  have s1 : (dIfS (dB (dBin (fCmpI iGt) (dCB fLen (dCons (dV 0) (dNil))) (dC (.int 300)))) (dRet (dC (.int 300))) (dPass)) [some (tS l), none, none, none, none, none, none, none, none] S = .nx [some (tS l), none, none, none, none, none, none, none, none] S := by simp [runF, startP, endOf, dRet, dRetN, dIf, dIfS, dB, dBin, dUn, dV, dC, sE, asB, dSeq, dSet, dPar, dPar3, dAsg, dExpr, dAnd, dOr, dNot, bAnd, bOr, bNot, dTru, dCB, dCons, dNil, dTup, dLst, dChain, dPass, fCmpI, fIsN, gTp, gsCons, gsNil, gNm, mkTup, dSl, dPart, dNoPart, lim, iLt, iLe, iGt, iGe, ln, c3]
  have s2 : (dAsg (dTup (dCons (dC (.int 0)) (dCons (dC (.int 1)) (dCons (dC (.str ("0123456789" : Str))) (dNil))))) (gTp 3 (gsCons (gNm 1) (gsCons (gNm 2) (gsCons (gNm 3) (gsNil)))))) [some (tS l), none, none, none, none, none, none, none, none] S = .nx [some (tS l), some (.int 0), some (.int 1), some dgs, none, none, none, none, none] S := rfl
  have s3 : (dIfS (dB (dBin (fEq false) (dSl false (dV 0) (dNoPart) (dPart (dC (.int 1)))) (dC (.str ("-" : Str))))) (dAsg (dTup (dCons (dC (.int 1)) (dCons (dUn fNeg (dC (.int 1))) (dNil)))) (gTp 2 (gsCons (gNm 1) (gsCons (gNm 2) (gsNil))))) (dPass)) [some (tS l), some (.int 0), some (.int 1), some dgs, none, none, none, none, none] S = .nx [some (tS l), some (.int ((if decide (l[0]? = some 45) = true then 1 else 0 : Nat) : Int)), some (.int (sgn (decide (l[0]? = some 45)) 1)), some dgs, none, none, none, none, none] S := by
    cases c : decide (l[0]? = some 45) <;> rw [c] at te0 <;> simp [runF, startP, endOf, dRet, dRetN, dIf, dIfS, dB, dBin, dUn, dV, dC, sE, asB, dSeq, dSet, dPar, dPar3, dAsg, dExpr, dAnd, dOr, dNot, bAnd, bOr, bNot, dTru, dCB, dCons, dNil, dTup, dLst, dChain, dPass, fCmpI, fIsN, gTp, gsCons, gsNil, gNm, mkTup, dSl, dPart, dNoPart, lim, iLt, iLe, iGt, iGe, ts0, te0, w_neg, sgn]
  unfold pr
  dsimp only
  have bl : (if decide (l[0]? = some 45) = true then 1 else 0) ≤ l.length := by
    by_cases c : l[0]? = some 45
    · have := (List.getElem?_eq_some_iff.mp c).1
      simp [c]; omega
    · simp [c]
  rw [e0, dd]
  simp only [dSeq, s0, s1, s2, s3]
  clear s0 s1 s2 s3 e0 dd
  generalize decide (l[0]? = some 45) = neg at *
  generalize (if neg = true then 1 else 0 : Nat) = b at *
  have s4 : (dSet 4 (dV 1)) [some (tS l), some (.int (b : Nat)), some (.int (sgn neg 1)), some dgs, none, none, none, none, none] S = .nx [some (tS l), some (.int (b : Nat)), some (.int (sgn neg 1)), some dgs, some (.int (b : Nat)), none, none, none, none] S := by simp [runF, startP, endOf, dRet, dRetN, dIf, dIfS, dB, dBin, dUn, dV, dC, sE, asB, dSeq, dSet, dPar, dPar3, dAsg, dExpr, dAnd, dOr, dNot, bAnd, bOr, bNot, dTru, dCB, dCons, dNil, dTup, dLst, dChain, dPass, fCmpI, fIsN, gTp, gsCons, gsNil, gNm, mkTup, dSl, dPart, dNoPart, lim, iLt, iLe, iGt, iGe]
  have s5 := to_all hl' (a2 := some (.int (sgn neg 1))) (a4 := some (.int (b : Nat))) (a5 := none) (a6 := none) (a7 := none) (a8 := none) bl S
  simp only [s4, s5]
  clear s4 s5
  have aW := rn_digits (l.drop b)
  have hmb := rn_le' l b
  generalize hm : rn (l.drop b) = m at *
  by_cases m0 : m = 0
  · subst m0
    have z : ∀ S, fEq false (.int ((b : Nat) : Int)) (.int (b : Nat)) S = .ok (.bl true) S := fun S => by rw [w_eq]; simp
    rw [if_pos rfl]
    simp only [Nat.add_zero]
    simp [runF, startP, endOf, dRet, dRetN, dIf, dIfS, dB, dBin, dUn, dV, dC, sE, asB, dSeq, dSet, dPar, dPar3, dAsg, dExpr, dAnd, dOr, dNot, bAnd, bOr, bNot, dTru, dCB, dCons, dNil, dTup, dLst, dChain, dPass, fCmpI, fIsN, gTp, gsCons, gsNil, gNm, mkTup, dSl, dPart, dNoPart, lim, iLt, iLe, iGt, iGe, z, tdR]
  rw [if_neg m0]
  have z : ∀ S, fEq false (.int ((b + m : Nat) : Int)) (.int (b : Nat)) S = .ok (.bl false) S := fun S => by rw [w_eq, beq_eq_false_iff_ne.mpr (by omega : ((b + m : Nat) : Int) ≠ (b : Int))]; rfl
  have sl := fun S => tsl_ab (l := l) (a := b) (b := b + m) (S := S) (by omega) bl hl'
  rw [show b + m - b = m from by omega] at sl
  have lW : ((l.drop b).take m).length = m := by rw [List.length_take, List.length_drop]; omega
  have nW : (l.drop b).take m ≠ [] := fun e => m0 (by rw [← lW, e]; rfl)
  generalize (l.drop b).take m = W at *
  have hh : b + m ≤ l.length := by omega
  generalize hbm : b + m = h at *
  have s6 : (dIfS (dB (dBin (fEq false) (dV 1) (dV 4))) (dRet (dV 1)) (dPass)) [some (tS l), some (.int (h : Nat)), some (.int (sgn neg 1)), some dgs, some (.int (b : Nat)), none, none, none, none] S = .nx [some (tS l), some (.int (h : Nat)), some (.int (sgn neg 1)), some dgs, some (.int (b : Nat)), none, none, none, none] S := by simp [runF, startP, endOf, dRet, dRetN, dIf, dIfS, dB, dBin, dUn, dV, dC, sE, asB, dSeq, dSet, dPar, dPar3, dAsg, dExpr, dAnd, dOr, dNot, bAnd, bOr, bNot, dTru, dCB, dCons, dNil, dTup, dLst, dChain, dPass, fCmpI, fIsN, gTp, gsCons, gsNil, gNm, mkTup, dSl, dPart, dNoPart, lim, iLt, iLe, iGt, iGe, z]
  have s7 : (dPar 5 6 (dCons (dSl false (dV 0) (dPart (dV 4)) (dPart (dV 1))) (dCons (dC (.int 0)) (dNil)))) [some (tS l), some (.int (h : Nat)), some (.int (sgn neg 1)), some dgs, some (.int (b : Nat)), none, none, none, none] S = .nx [some (tS l), some (.int (h : Nat)), some (.int (sgn neg 1)), some dgs, some (.int (b : Nat)), some (tS W), some (.int 0), none, none] S := by simp [runF, startP, endOf, dRet, dRetN, dIf, dIfS, dB, dBin, dUn, dV, dC, sE, asB, dSeq, dSet, dPar, dPar3, dAsg, dExpr, dAnd, dOr, dNot, bAnd, bOr, bNot, dTru, dCB, dCons, dNil, dTup, dLst, dChain, dPass, fCmpI, fIsN, gTp, gsCons, gsNil, gNm, mkTup, dSl, dPart, dNoPart, lim, iLt, iLe, iGt, iGe, sl]
  simp only [s6, s7]
  clear s6 s7
  obtain ⟨t1, ts1, te1⟩ := at_is as hl' (h := h) hh 46 (by decide) "." l_p
  have ad1 : ∀ S, fAdd false (.int (h : Int)) (.int 1) S = .ok (.int ((h : Int) + 1)) S := fun S => w_add
  by_cases dot : l[h]? = some 46
  · have lt := (List.getElem?_eq_some_iff.mp dot).1
    rw [decide_eq_true dot] at te1
    rw [if_pos dot]
    have h1 : h + 1 ≤ l.length := by omega
    have es1 : ((h : Int) + 1) = ((h + 1 : Nat) : Int) := rfl
    rw [es1] at ts1 ad1
    have aB := rn_digits (l.drop (h + 1))
    have hmb2 := rn_le' l (h + 1)
    have wl := fun (a7 : Option PV) => to_all hl' (a2 := some (.int (sgn neg 1))) (a4 := some (.int (b : Nat))) (a5 := some (tS W)) (a6 := some (.int 0)) (a7 := a7) (a8 := none) h1 S
    have dD : toD = dIfS (dB (dBin (fEq false) (dSl false (dV 0) (dPart (dV 1)) (dPart (dBin (fAdd false) (dV 1) (dC (.int 1))))) (dC (.str ("." : Str))))) (dSeq (dSet 7 (dBin (fAdd false) (dV 1) (dC (.int 1)))) (dSeq (dSet 1 (dV 7)) (dSeq (whileP toC toB fuel) (dSeq (dIfS (dB (dBin (fEq false) (dV 1) (dV 7))) (dRet (dV 1)) (dPass)) (dPar 5 6 (dCons (dBin (fAdd false) (dV 5) (dSl false (dV 0) (dPart (dV 7)) (dPart (dV 1)))) (dCons (dBin fSub (dV 7) (dV 1)) (dNil)))))))) dPass := rfl
    generalize hm2 : rn (l.drop (h + 1)) = m2 at *
    generalize hg : h + 1 = hp at *
    have sl2 := fun S => tsl_ab (l := l) (a := hp) (b := hp + m2) (S := S) (by omega) h1 hl'
    rw [show hp + m2 - hp = m2 from by omega] at sl2
    have lB : ((l.drop hp).take m2).length = m2 := by rw [List.length_take, List.length_drop]; omega
    have sub : ∀ S, fSub (.int (hp : Nat)) (.int ((hp + m2 : Nat) : Int)) S = .ok (.int (0 - (m2 : Int))) S := fun S => by rw [w_sub]; congr 2; omega
    generalize (l.drop hp).take m2 = B at *
    have u0 : (dB (dBin (fEq false) (dSl false (dV 0) (dPart (dV 1)) (dPart (dBin (fAdd false) (dV 1) (dC (.int 1))))) (dC (.str ("." : Str))))) [some (tS l), some (.int (h : Nat)), some (.int (sgn neg 1)), some dgs, some (.int (b : Nat)), some (tS W), some (.int 0), none, none] S = .ok true S := by simp [runF, startP, endOf, dRet, dRetN, dIf, dIfS, dB, dBin, dUn, dV, dC, sE, asB, dSeq, dSet, dPar, dPar3, dAsg, dExpr, dAnd, dOr, dNot, bAnd, bOr, bNot, dTru, dCB, dCons, dNil, dTup, dLst, dChain, dPass, fCmpI, fIsN, gTp, gsCons, gsNil, gNm, mkTup, dSl, dPart, dNoPart, lim, iLt, iLe, iGt, iGe, ad1, ts1, te1]
    have u1 : (dSet 7 (dBin (fAdd false) (dV 1) (dC (.int 1)))) [some (tS l), some (.int (h : Nat)), some (.int (sgn neg 1)), some dgs, some (.int (b : Nat)), some (tS W), some (.int 0), none, none] S = .nx [some (tS l), some (.int (h : Nat)), some (.int (sgn neg 1)), some dgs, some (.int (b : Nat)), some (tS W), some (.int 0), some (.int (hp : Nat)), none] S := by simp [runF, startP, endOf, dRet, dRetN, dIf, dIfS, dB, dBin, dUn, dV, dC, sE, asB, dSeq, dSet, dPar, dPar3, dAsg, dExpr, dAnd, dOr, dNot, bAnd, bOr, bNot, dTru, dCB, dCons, dNil, dTup, dLst, dChain, dPass, fCmpI, fIsN, gTp, gsCons, gsNil, gNm, mkTup, dSl, dPart, dNoPart, lim, iLt, iLe, iGt, iGe, ad1]
    have u2 : (dSet 1 (dV 7)) [some (tS l), some (.int (h : Nat)), some (.int (sgn neg 1)), some dgs, some (.int (b : Nat)), some (tS W), some (.int 0), some (.int (hp : Nat)), none] S = .nx [some (tS l), some (.int (hp : Nat)), some (.int (sgn neg 1)), some dgs, some (.int (b : Nat)), some (tS W), some (.int 0), some (.int (hp : Nat)), none] S := by simp [runF, startP, endOf, dRet, dRetN, dIf, dIfS, dB, dBin, dUn, dV, dC, sE, asB, dSeq, dSet, dPar, dPar3, dAsg, dExpr, dAnd, dOr, dNot, bAnd, bOr, bNot, dTru, dCB, dCons, dNil, dTup, dLst, dChain, dPass, fCmpI, fIsN, gTp, gsCons, gsNil, gNm, mkTup, dSl, dPart, dNoPart, lim, iLt, iLe, iGt, iGe]
    rw [dD, ifS_t u0]
    simp only [dSeq, u1, u2, wl]
    clear u0 u1 u2 wl dD
    by_cases m20 : m2 = 0
    · rw [if_pos m20]
      subst m20
      have z2 : ∀ S, fEq false (.int ((hp : Nat) : Int)) (.int (hp : Nat)) S = .ok (.bl true) S := fun S => by rw [w_eq]; simp
      simp only [Nat.add_zero]
      simp [runF, startP, endOf, dRet, dRetN, dIf, dIfS, dB, dBin, dUn, dV, dC, sE, asB, dSeq, dSet, dPar, dPar3, dAsg, dExpr, dAnd, dOr, dNot, bAnd, bOr, bNot, dTru, dCB, dCons, dNil, dTup, dLst, dChain, dPass, fCmpI, fIsN, gTp, gsCons, gsNil, gNm, mkTup, dSl, dPart, dNoPart, lim, iLt, iLe, iGt, iGe, z2, tdR]
    rw [if_neg m20]
    have z2 : ∀ S, fEq false (.int ((hp + m2 : Nat) : Int)) (.int (hp : Nat)) S = .ok (.bl false) S := fun S => by rw [w_eq, beq_eq_false_iff_ne.mpr (by omega : ((hp + m2 : Nat) : Int) ≠ (hp : Int))]; rfl
    have hh2 : hp + m2 ≤ l.length := by omega
    have lm2 : m2 ≤ 100 := by omega
    generalize hp + m2 = h2 at *
    have ct := fun S => tcat (a := W) (b := B) (S := S) (by omega)
    have dg : AD (W ++ B) := aW.app aB
    have ne : W ++ B ≠ [] := by simp [nW]
    have lD : (W ++ B).length ≤ 100 := by rw [List.length_append, lW, lB]; omega
    have tf := to_fin as hl (neg := neg) (D := W ++ B) (k := m2) hh2 dg ne lD lm2 (a4 := some (.int (b : Nat))) (a7 := some (.int (hp : Nat))) (a8 := none) S
    generalize W ++ B = D at *
    generalize (0 - (m2 : Int)) = km at *
    have v1 : (dIfS (dB (dBin (fEq false) (dV 1) (dV 7))) (dRet (dV 1)) (dPass)) [some (tS l), some (.int (h2 : Nat)), some (.int (sgn neg 1)), some dgs, some (.int (b : Nat)), some (tS W), some (.int 0), some (.int (hp : Nat)), none] S = .nx [some (tS l), some (.int (h2 : Nat)), some (.int (sgn neg 1)), some dgs, some (.int (b : Nat)), some (tS W), some (.int 0), some (.int (hp : Nat)), none] S := by simp [runF, startP, endOf, dRet, dRetN, dIf, dIfS, dB, dBin, dUn, dV, dC, sE, asB, dSeq, dSet, dPar, dPar3, dAsg, dExpr, dAnd, dOr, dNot, bAnd, bOr, bNot, dTru, dCB, dCons, dNil, dTup, dLst, dChain, dPass, fCmpI, fIsN, gTp, gsCons, gsNil, gNm, mkTup, dSl, dPart, dNoPart, lim, iLt, iLe, iGt, iGe, z2]
    have v2 : (dPar 5 6 (dCons (dBin (fAdd false) (dV 5) (dSl false (dV 0) (dPart (dV 7)) (dPart (dV 1)))) (dCons (dBin fSub (dV 7) (dV 1)) (dNil)))) [some (tS l), some (.int (h2 : Nat)), some (.int (sgn neg 1)), some dgs, some (.int (b : Nat)), some (tS W), some (.int 0), some (.int (hp : Nat)), none] S = .nx [some (tS l), some (.int (h2 : Nat)), some (.int (sgn neg 1)), some dgs, some (.int (b : Nat)), some (tS D), some (.int km), some (.int (hp : Nat)), none] S := by simp [runF, startP, endOf, dRet, dRetN, dIf, dIfS, dB, dBin, dUn, dV, dC, sE, asB, dSeq, dSet, dPar, dPar3, dAsg, dExpr, dAnd, dOr, dNot, bAnd, bOr, bNot, dTru, dCB, dCons, dNil, dTup, dLst, dChain, dPass, fCmpI, fIsN, gTp, gsCons, gsNil, gNm, mkTup, dSl, dPart, dNoPart, lim, iLt, iLe, iGt, iGe, sl2, ct, sub]
    simp only [v1, v2]
    exact tf
  · rw [decide_eq_false dot] at te1
    rw [if_neg dot]
    have u0 : (dB (dBin (fEq false) (dSl false (dV 0) (dPart (dV 1)) (dPart (dBin (fAdd false) (dV 1) (dC (.int 1))))) (dC (.str ("." : Str))))) [some (tS l), some (.int (h : Nat)), some (.int (sgn neg 1)), some dgs, some (.int (b : Nat)), some (tS W), some (.int 0), none, none] S = .ok false S := by simp [runF, startP, endOf, dRet, dRetN, dIf, dIfS, dB, dBin, dUn, dV, dC, sE, asB, dSeq, dSet, dPar, dPar3, dAsg, dExpr, dAnd, dOr, dNot, bAnd, bOr, bNot, dTru, dCB, dCons, dNil, dTup, dLst, dChain, dPass, fCmpI, fIsN, gTp, gsCons, gsNil, gNm, mkTup, dSl, dPart, dNoPart, lim, iLt, iLe, iGt, iGe, ad1, ts1, te1]
    have dD : toD [some (tS l), some (.int (h : Nat)), some (.int (sgn neg 1)), some dgs, some (.int (b : Nat)), some (tS W), some (.int 0), none, none] S = .nx [some (tS l), some (.int (h : Nat)), some (.int (sgn neg 1)), some dgs, some (.int (b : Nat)), some (tS W), some (.int 0), none, none] S := by
      unfold toD
      rw [ifS_f u0]
      rfl
    simp only [dD]
    exact to_fin as hl (neg := neg) (D := W) (k := 0) hh aW nW (by omega) (by decide) (a4 := some (.int (b : Nat))) (a7 := none) (a8 := none) S
end G58
end
section
set_option Elab.async false
set_option linter.all false
set_option maxRecDepth 100000
set_option maxHeartbeats 8000000
set_option exponentiation.threshold 5000
namespace G58
open PySem PySem.Spec PyProof.Rows L2 Mi Ra Tx
/-! ### what came -/
theorem w_bad {K : Sto → Res PV} {S : Sto} {i : Int} (h : K S = .exc "BadText" [("place", .int i)] S) : G_law_place_L K S = .ok (.int i) S := by
  have c : catT "BadText" = some true := by kernel_rfl
  have i0 : isT "BadText" (.glb "BadText") = some true := by kernel_rfl
  have a : dAct 0 K [some .lam, none] S = .exc "BadText" [("place", .int i)] S := h
  have lk : List.lookup ("place" : Str) [(("place" : Str), PV.int i)] = some (.int i) := by simp [List.lookup]
  simp [G_law_place_L, lamF, d_law_place_L, dTry, runF, startP, endOf, dRet, dRetN, dIf, dIfS, dB, dBin, dUn, dV, dC, sE, asB, dSeq, dSet, dPar, dPar3, dAsg, dExpr, dAnd, dOr, dNot, bAnd, bOr, bNot, dTru, dCB, dCons, dNil, dTup, dLst, dChain, dPass, fCmpI, fIsN, gTp, gsCons, gsNil, gNm, mkTup, dSl, dPart, dNoPart, lim, iLt, iLe, iGt, iGe, a, c, tryEnd, errEnv, fIsE, isF, i0, dErrFld, lk, truP, cleanR, flatP]
theorem w_frac {K : Sto → Res PV} {S : Sto} (h : K S = .exc "NoFraction" [] S) : G_law_place_L K S = .ok (.str "fraction") S := by
  have c : catT "NoFraction" = some true := by kernel_rfl
  have i0 : isT "NoFraction" (.glb "BadText") = some false := by kernel_rfl
  have i1 : isT "NoFraction" (.glb "NoFraction") = some true := by kernel_rfl
  have a : dAct 0 K [some .lam, none] S = .exc "NoFraction" [] S := h
  simp [G_law_place_L, lamF, d_law_place_L, dTry, runF, startP, endOf, dRet, dRetN, dIf, dIfS, dB, dBin, dUn, dV, dC, sE, asB, dSeq, dSet, dPar, dPar3, dAsg, dExpr, dAnd, dOr, dNot, bAnd, bOr, bNot, dTru, dCB, dCons, dNil, dTup, dLst, dChain, dPass, fCmpI, fIsN, gTp, gsCons, gsNil, gNm, mkTup, dSl, dPart, dNoPart, lim, iLt, iLe, iGt, iGe, a, c, tryEnd, errEnv, fIsE, isF, i0, i1, truP, cleanR, flatP]
theorem w_none {K : Sto → Res PV} {S : Sto} {v : PV} (h : K S = .ok v S) : G_law_place_L K S = .ok .non S := by
  have a : dAct 0 K [some .lam, none] S = .ok v S := h
  simp [G_law_place_L, lamF, d_law_place_L, dTry, runF, startP, endOf, dRet, dRetN, dIf, dIfS, dB, dBin, dUn, dV, dC, sE, asB, dSeq, dSet, dPar, dPar3, dAsg, dExpr, dAnd, dOr, dNot, bAnd, bOr, bNot, dTru, dCB, dCons, dNil, dTup, dLst, dChain, dPass, fCmpI, fIsN, gTp, gsCons, gsNil, gNm, mkTup, dSl, dPart, dNoPart, lim, iLt, iLe, iGt, iGe, a, cleanR, flatP]
end G58
end
section
set_option Elab.async false
set_option linter.all false
set_option maxRecDepth 100000
set_option maxHeartbeats 8000000
set_option exponentiation.threshold 5000
namespace G58
open PySem PySem.Spec PyProof.Rows L2 Mi Ra Tx
/-! ### drawn texts -/
def ten : List PV := [tS [48], tS [49], tS [50], tS [51], tS [52], tS [53], tS [54], tS [55], tS [56], tS [57]]
theorem list_ten (S : Sto) : fListS [.str ("0123456789" : Str)] S = .ok (.nl ten) S := by kernel_rfl
theorem ten_any {b : Int} {S : Sto} (hk : Hk b S) (hb : b ≤ 999990000) : ∃ c S', F_law_any_L [.ref 0, .nl ten] S = .ok (tS [c]) S' ∧ (48 ≤ c ∧ c ≤ 57) ∧ Hk (b + 1) S' := by
  obtain ⟨y, hy, S1, e1, k1⟩ := e_any (xs := ten) hk (by omega) (by decide) (by decide)
  have hy' : ∃ c, y = tS [c] ∧ 48 ≤ c ∧ c ≤ 57 := by
    simp only [ten, List.mem_cons, List.not_mem_nil, or_false] at hy
    rcases hy with rfl | rfl | rfl | rfl | rfl | rfl | rfl | rfl | rfl | rfl <;> exact ⟨_, rfl, by decide, by decide⟩
  obtain ⟨c, rfl, hc⟩ := hy'
  exact ⟨c, S1, e1, hc, k1⟩
theorem strs_cs : ∀ cs : List Nat, strsOf (cs.map fun c => tS [c]) = some (cs.map fun c => sS [c])
  | [] => rfl
  | c :: r => by
    rw [List.map_cons, strsOf, strs_cs r]
    rfl
theorem join_nil : ∀ cs : List Nat, TL.joinL [] (cs.map fun c => [c]) = cs
  | [] => rfl
  | [c] => rfl
  | c :: d :: r => by
    have ih := join_nil (d :: r)
    rw [List.map_cons] at ih
    rw [List.map_cons, List.map_cons, TL.joinL]
    · rw [ih]; rfl
theorem join_cs {cs : List Nat} (h : cs.length ≤ 1000) (S : Sto) : fJoin (.str ("" : Str)) (.nl (cs.map fun c => tS [c])) S = .ok (tS cs) S := by
  show (match strsOf (cs.map fun c => tS [c]) with
    | some (ys : List Str) => if (ys.map fun y : Str => y.length).sum + ys.length * ("" : Str).length ≤ 16777216 then Res.ok (PV.str (Txt.join ("" : Str) ys)) S else .bad
    | none => .bad) = _
  rw [strs_cs]
  have e1 : ((cs.map fun c => sS [c]).map fun y : Str => y.length).sum = cs.length := by
    rw [List.map_map]
    have : ((fun x : Str => x.length) ∘ fun c : Nat => sS [c]) = fun _ => 1 := by funext c; rfl
    rw [this]
    induction cs with
    | nil => rfl
    | cons c r ih => rw [List.map_cons, List.sum_cons, ih (by rw [List.length_cons] at h; omega), List.length_cons]; omega
  have e2 : Txt.join ("" : Str) (cs.map fun c => sS [c]) = sS cs := by
    have := SX.join_S [] (cs.map fun c => [c])
    rw [join_nil, List.map_map] at this
    exact this
  show (if ((cs.map fun c => sS [c]).map fun y : Str => y.length).sum + (cs.map fun c => sS [c]).length * 0 ≤ 16777216 then Res.ok (PV.str (Txt.join ("" : Str) (cs.map fun c => sS [c]))) S else .bad) = _
  rw [e1, e2, if_pos (by omega)]
theorem l_figures {b m : Int} {S : Sto} (hk : Hk b S) (hb : b ≤ 900000000) (m0 : 0 < m) (m1 : m ≤ 100) : ∃ A S', F_law_figures_L [.ref 0, .int m] S = .ok (tS A) S' ∧ AD A ∧ A ≠ [] ∧ A.length ≤ m.toNat ∧ Hk (b + 200) S' := by
  obtain ⟨d, S1, e1, a1, b1, k1⟩ := e_draw (k := m) hk m0 (by omega) (by omega)
  obtain ⟨cs, S2, e2, h2, y2, k2⟩ := lcP_draw (f := cNm 2) (de := dCB F_law_any_L (dCons (dV 0) (dCons (dCB fListS (dCons (dC (.str ("0123456789" : Str))) (dNil))) (dNil)))) (ρ := [some (.ref 0), some (.int m), none]) (fun i : Nat => PV.int (i : Int)) (fun c : Nat => tS [c]) (fun _ => True) (fun c => 48 ≤ c ∧ c ≤ 57) (fun _ => ()) (fun _ => ()) 1
    (fun x S b _ hk hb => by
      obtain ⟨c, S', e, hc, k⟩ := ten_any hk hb
      exact ⟨_, c, S', rfl, by simp [runF, startP, endOf, dRet, dRetN, dIf, dIfS, dB, dBin, dUn, dV, dC, sE, asB, dSeq, dSet, dPar, dPar3, dAsg, dExpr, dAnd, dOr, dNot, bAnd, bOr, bNot, dTru, dCB, dCons, dNil, dTup, dLst, dChain, dPass, fCmpI, fIsN, gTp, gsCons, gsNil, gNm, mkTup, dSl, dPart, dNoPart, lim, iLt, iLe, iGt, iGe, list_ten, e], hc, rfl, k⟩) (List.range (1 + d).toNat) [] S1 (b + 1) (fun _ _ => trivial) k1 (by simp; omega) (by simp; omega)
  have len2 : cs.length = (1 + d).toNat := by have := congrArg List.length y2; simpa using this
  rw [List.nil_append] at e2
  refine ⟨cs, S2, ?_, fun c hc => h2 c hc, fun e => by rw [e] at len2; simp at len2; omega, by omega, k2.mono (by simp; omega)⟩
  have r1 : iRange (dCons (dBin (fAdd false) (dC (.int 1)) (dCB F_law_draw_L (dCons (dV 0) (dCons (dV 1) (dNil))))) (dNil)) [some (.ref 0), some (.int m), none] S = .ok ((List.range (1 + d).toNat).map fun (i : Nat) => PV.int (i : Int)) S1 := by
    have q : (dCons (dBin (fAdd false) (dC (.int 1)) (dCB F_law_draw_L (dCons (dV 0) (dCons (dV 1) (dNil))))) (dNil)) [some (.ref 0), some (.int m), none] S = .ok [.int (1 + d)] S1 := by simp [runF, startP, endOf, dRet, dRetN, dIf, dIfS, dB, dBin, dUn, dV, dC, sE, asB, dSeq, dSet, dPar, dPar3, dAsg, dExpr, dAnd, dOr, dNot, bAnd, bOr, bNot, dTru, dCB, dCons, dNil, dTup, dLst, dChain, dPass, fCmpI, fIsN, gTp, gsCons, gsNil, gNm, mkTup, dSl, dPart, dNoPart, lim, iLt, iLe, iGt, iGe, e1, w_add]
    unfold iRange
    rw [q, Res.bind_ok, ← upTo_map]
    show (if -1000000 ≤ (1 + d) ∧ (1 + d) ≤ 1000000 then Res.ok (upTo 0 (1 + d).toNat) S1 else .bad) = _
    rw [if_pos (by omega)]
  have w1 : wipeP [some (.ref 0), some (.int m), none] [2] = [some (.ref 0), some (.int m), none] := rfl
  have c1 : dLc false (iRange (dCons (dBin (fAdd false) (dC (.int 1)) (dCB F_law_draw_L (dCons (dV 0) (dCons (dV 1) (dNil))))) (dNil))) (cNm 2) (dYes) (dCB F_law_any_L (dCons (dV 0) (dCons (dCB fListS (dCons (dC (.str ("0123456789" : Str))) (dNil))) (dNil)))) [2] [some (.ref 0), some (.int m), none] S = .ok (.nl (cs.map fun c => tS [c])) S2 := by
    unfold dLc
    rw [r1, Res.bind_ok, w1, e2, Res.bind_ok]
    unfold mkLst
    rw [if_pos (by rw [List.length_map]; unfold lim; omega)]
    rfl
  have j := fun S => join_cs (cs := cs) (by omega) S
  have is : isStr (.str ("" : Str)) = true := rfl
  generalize (PV.nl (cs.map fun c => tS [c])) = Y at *
  simp [F_law_figures_L, d_law_figures_L, runF, startP, endOf, dRet, dRetN, dIf, dIfS, dB, dBin, dUn, dV, dC, sE, asB, dSeq, dSet, dPar, dPar3, dAsg, dExpr, dAnd, dOr, dNot, bAnd, bOr, bNot, dTru, dCB, dCons, dNil, dTup, dLst, dChain, dPass, fCmpI, fIsN, gTp, gsCons, gsNil, gNm, mkTup, dSl, dPart, dNoPart, lim, iLt, iLe, iGt, iGe, dM1, c1, j, is]
end G58
end
section
set_option Elab.async false
set_option linter.all false
set_option maxRecDepth 100000
set_option maxHeartbeats 8000000
set_option exponentiation.threshold 5000
namespace G58
open PySem PySem.Spec PyProof.Rows L2 Mi Ra Tx
/-- a drawn form: few figures, a small power -/
structure FoD (f : Fo) : Prop where
  ok : f.Ok
  lA : f.A.length ≤ 5
  lB : f.b.length ≤ 6
  lX : f.e.natAbs ≤ 12
theorem l_text {b : Int} {S : Sto} (hk : Hk b S) (hb : b ≤ 800000000) : ∃ f S', F_law_text_L [.ref 0] S = .ok (tS f.txt) S' ∧ FoD f ∧ Hk (b + 1000) S' := by
  obtain ⟨y0, hy0, S1, e1, k1⟩ := e_any (xs := [.str ("" : Str), .str ("" : Str), .str ("-" : Str)]) hk (by omega) (by simp) (by simp)
  have h0 : ∃ neg : Bool, y0 = tS (if neg = true then [45] else []) := by
    simp only [List.mem_cons, List.not_mem_nil, or_false] at hy0
    rcases hy0 with rfl | rfl | rfl
    · exact ⟨false, rfl⟩
    · exact ⟨false, rfl⟩
    · exact ⟨true, l_m⟩
  obtain ⟨neg, rfl⟩ := h0
  obtain ⟨A, S2, e2, aA, nA, lA, k2⟩ := l_figures (m := 5) k1 (by omega) (by decide) (by decide)
  obtain ⟨d3, S3, e3, a3, b3, k3⟩ := e_draw (k := 2) k2 (by decide) (by decide) (by omega)
  have c0 := fun S => tcat (a := if neg = true then [45] else []) (b := A) (S := S) (by cases neg <;> simp <;> omega)
  have z0 : ∀ S, fEq false (.int 0) (.int 0) S = .ok (.bl true) S := fun S => by kernel_rfl
  have z1 : ∀ S, fEq false (.int 1) (.int 0) S = .ok (.bl false) S := fun S => by kernel_rfl
  -- the point
  have st2 : ∃ (B : Option (List Nat)) (T : List Nat) (S' : Sto), (dIfS (dB (dBin (fEq false) (dCB F_law_draw_L (dCons (dV 0) (dCons (dC (.int 2)) (dNil)))) (dC (.int 0)))) (dSet 1 (dBin (fAdd false) (dBin (fAdd false) (dV 1) (dC (.str ("." : Str)))) (dCB F_law_figures_L (dCons (dV 0) (dCons (dC (.int 6)) (dNil)))))) (dPass)) [some (.ref 0), some (tS ((if neg = true then [45] else []) ++ A))] S2 = .nx [some (.ref 0), some (tS T)] S' ∧ T = (if neg = true then [45] else []) ++ A ++ (match B with | none => [] | some b => 46 :: b) ∧ (∀ b, B = some b → AD b ∧ b ≠ [] ∧ b.length ≤ 6) ∧ T.length ≤ 13 ∧ Hk (b + 500) S' := by
    have l0 : ((if neg = true then [45] else []) ++ A).length ≤ 6 := by cases neg <;> simp <;> omega
    generalize (if neg = true then [45] else []) ++ A = T0 at *
    rcases (by omega : d3 = 0 ∨ d3 = 1) with rfl | rfl
    · obtain ⟨B, S4, e4, aB, nB, lB, k4⟩ := l_figures (m := 6) k3 (by omega) (by decide) (by decide)
      have c1 := fun S => tcat (a := T0) (b := [46]) (S := S) (by simp; omega)
      have c2 := fun S => tcat (a := T0 ++ [46]) (b := B) (S := S) (by simp; omega)
      have q1 : ∀ S, fAdd false (tS T0) (.str ("." : Str)) S = .ok (tS (T0 ++ [46])) S := fun S => by rw [l_p]; exact c1 S
      refine ⟨some B, T0 ++ [46] ++ B, S4, ?_, by simp, fun b e => by cases e; exact ⟨aB, nB, lB⟩, by simp; omega, k4.mono (by omega)⟩
      generalize T0 ++ [46] ++ B = T2 at *
      generalize T0 ++ [46] = T1 at *
      simp [runF, startP, endOf, dRet, dRetN, dIf, dIfS, dB, dBin, dUn, dV, dC, sE, asB, dSeq, dSet, dPar, dPar3, dAsg, dExpr, dAnd, dOr, dNot, bAnd, bOr, bNot, dTru, dCB, dCons, dNil, dTup, dLst, dChain, dPass, fCmpI, fIsN, gTp, gsCons, gsNil, gNm, mkTup, dSl, dPart, dNoPart, lim, iLt, iLe, iGt, iGe, e3, z0, e4, q1, c2]
    · refine ⟨none, T0, S3, ?_, by simp, fun b e => (by cases e), by omega, k3.mono (by omega)⟩
      simp [runF, startP, endOf, dRet, dRetN, dIf, dIfS, dB, dBin, dUn, dV, dC, sE, asB, dSeq, dSet, dPar, dPar3, dAsg, dExpr, dAnd, dOr, dNot, bAnd, bOr, bNot, dTru, dCB, dCons, dNil, dTup, dLst, dChain, dPass, fCmpI, fIsN, gTp, gsCons, gsNil, gNm, mkTup, dSl, dPart, dNoPart, lim, iLt, iLe, iGt, iGe, e3, z1]
  obtain ⟨B, T, S4, s2, eT, hB, lT, k4⟩ := st2
  obtain ⟨d5, S5, e5, a5, b5, k5⟩ := e_draw (k := 2) k4 (by decide) (by decide) (by omega)
  have st3 : ∃ (X : Option (Bool × List Nat)) (T2 : List Nat) (S' : Sto), (dIfS (dB (dBin (fEq false) (dCB F_law_draw_L (dCons (dV 0) (dCons (dC (.int 2)) (dNil)))) (dC (.int 0)))) (dSet 1 (dBin (fAdd false) (dBin (fAdd false) (dBin (fAdd false) (dV 1) (dC (.str ("e" : Str)))) (dCB F_law_any_L (dCons (dV 0) (dCons (dLst false (dCons (dC (.str ("" : Str))) (dCons (dC (.str ("-" : Str))) (dNil)))) (dNil))))) (dCB F_law_any_L (dCons (dV 0) (dCons (dLst false (dCons (dC (.str ("0" : Str))) (dCons (dC (.str ("1" : Str))) (dCons (dC (.str ("3" : Str))) (dCons (dC (.str ("07" : Str))) (dCons (dC (.str ("12" : Str))) (dCons (dC (.str ("003" : Str))) (dNil)))))))) (dNil)))))) (dPass)) [some (.ref 0), some (tS T)] S4 = .nx [some (.ref 0), some (tS T2)] S' ∧ T2 = T ++ (match X with | none => [] | some (n, x) => 101 :: ((if n = true then [45] else []) ++ x)) ∧ (∀ n x, X = some (n, x) → AD x ∧ x ≠ [] ∧ x.length ≤ 3 ∧ val x ≤ 12) ∧ Hk (b + 600) S' := by
    rcases (by omega : d5 = 0 ∨ d5 = 1) with rfl | rfl
    · obtain ⟨y6, hy6, S6, e6, k6⟩ := e_any (xs := [.str ("" : Str), .str ("-" : Str)]) k5 (by omega) (by simp) (by simp)
      have h6 : ∃ n : Bool, y6 = tS (if n = true then [45] else []) := by
        simp only [List.mem_cons, List.not_mem_nil, or_false] at hy6
        rcases hy6 with rfl | rfl
        · exact ⟨false, rfl⟩
        · exact ⟨true, l_m⟩
      obtain ⟨n, rfl⟩ := h6
      obtain ⟨y7, hy7, S7, e7, k7⟩ := e_any (xs := [.str ("0" : Str), .str ("1" : Str), .str ("3" : Str), .str ("07" : Str), .str ("12" : Str), .str ("003" : Str)]) k6 (by omega) (by simp) (by simp)
      have h7 : ∃ x : List Nat, y7 = tS x ∧ AD x ∧ x ≠ [] ∧ x.length ≤ 3 ∧ val x ≤ 12 := by
        simp only [List.mem_cons, List.not_mem_nil, or_false] at hy7
        have ad : ∀ x : List Nat, (x.all fun c => decide (48 ≤ c) && decide (c ≤ 57)) = true → AD x := fun x h c hc => by
          have z := List.all_eq_true.mp h c hc
          simp at z
          exact z
        rcases hy7 with rfl | rfl | rfl | rfl | rfl | rfl
        · exact ⟨[48], by kernel_rfl, ad _ (by decide), by decide, by decide, by decide +kernel⟩
        · exact ⟨[49], by kernel_rfl, ad _ (by decide), by decide, by decide, by decide +kernel⟩
        · exact ⟨[51], by kernel_rfl, ad _ (by decide), by decide, by decide, by decide +kernel⟩
        · exact ⟨[48, 55], by kernel_rfl, ad _ (by decide), by decide, by decide, by decide +kernel⟩
        · exact ⟨[49, 50], by kernel_rfl, ad _ (by decide), by decide, by decide, by decide +kernel⟩
        · exact ⟨[48, 48, 51], by kernel_rfl, ad _ (by decide), by decide, by decide, by decide +kernel⟩
      obtain ⟨x, rfl, ax, nx, lx, vx⟩ := h7
      have ln : (if n = true then [45] else [] : List Nat).length ≤ 1 := by cases n <;> decide
      have c1 := fun S => tcat (a := T) (b := [101]) (S := S) (by simp; omega)
      have q1 : ∀ S, fAdd false (tS T) (.str ("e" : Str)) S = .ok (tS (T ++ [101])) S := fun S => by rw [l_e]; exact c1 S
      have c2 := fun S => tcat (a := T ++ [101]) (b := if n = true then [45] else []) (S := S) (by simp; omega)
      have c3 := fun S => tcat (a := T ++ [101] ++ (if n = true then [45] else [])) (b := x) (S := S) (by simp; omega)
      refine ⟨some (n, x), T ++ [101] ++ (if n = true then [45] else []) ++ x, S7, ?_, by simp, fun n' x' e => by cases e; exact ⟨ax, nx, lx, vx⟩, k7.mono (by omega)⟩
      generalize T ++ [101] ++ (if n = true then [45] else []) ++ x = T4 at *
      generalize T ++ [101] ++ (if n = true then [45] else []) = T3 at *
      generalize (if n = true then [45] else [] : List Nat) = sn at *
      generalize T ++ [101] = T2 at *
      simp [runF, startP, endOf, dRet, dRetN, dIf, dIfS, dB, dBin, dUn, dV, dC, sE, asB, dSeq, dSet, dPar, dPar3, dAsg, dExpr, dAnd, dOr, dNot, bAnd, bOr, bNot, dTru, dCB, dCons, dNil, dTup, dLst, dChain, dPass, fCmpI, fIsN, gTp, gsCons, gsNil, gNm, mkTup, dSl, dPart, dNoPart, lim, iLt, iLe, iGt, iGe, e5, z0, e6, e7, q1, c2, c3, mkLst]
    · refine ⟨none, T, S5, ?_, by simp, fun n x e => (by cases e), k5.mono (by omega)⟩
      simp [runF, startP, endOf, dRet, dRetN, dIf, dIfS, dB, dBin, dUn, dV, dC, sE, asB, dSeq, dSet, dPar, dPar3, dAsg, dExpr, dAnd, dOr, dNot, bAnd, bOr, bNot, dTru, dCB, dCons, dNil, dTup, dLst, dChain, dPass, fCmpI, fIsN, gTp, gsCons, gsNil, gNm, mkTup, dSl, dPart, dNoPart, lim, iLt, iLe, iGt, iGe, e5, z1]
  obtain ⟨X, T2, S6, s3, eT2, hX, k6⟩ := st3
  have ft : (⟨neg, A, B, X⟩ : Fo).txt = T2 := by
    rw [eT2, eT]
    unfold Fo.txt Fo.r1 Fo.r2
    cases B <;> cases X <;> simp
  refine ⟨⟨neg, A, B, X⟩, S6, ?_, ⟨⟨aA, nA, fun b e => ⟨(hB b e).1, (hB b e).2.1⟩, fun n x e => ⟨(hX n x e).1, (hX n x e).2.1, (hX n x e).2.2.1, by have := (hX n x e).2.2.2; omega⟩⟩, lA, ?_, ?_⟩, k6.mono (by omega)⟩
  · rw [ft]
    have e0 : F_law_text_L [.ref 0] S = endOf (d_law_text_L [some (.ref 0), none] S) := rfl
    have s1 : (dSet 1 (dBin (fAdd false) (dCB F_law_any_L (dCons (dV 0) (dCons (dLst false (dCons (dC (.str ("" : Str))) (dCons (dC (.str ("" : Str))) (dCons (dC (.str ("-" : Str))) (dNil))))) (dNil)))) (dCB F_law_figures_L (dCons (dV 0) (dCons (dC (.int 5)) (dNil)))))) [some (.ref 0), none] S = .nx [some (.ref 0), some (tS ((if neg = true then [45] else []) ++ A))] S2 := by
      generalize (if neg = true then [45] else []) ++ A = T0 at *
      generalize (if neg = true then [45] else [] : List Nat) = sn at *
      simp [runF, startP, endOf, dRet, dRetN, dIf, dIfS, dB, dBin, dUn, dV, dC, sE, asB, dSeq, dSet, dPar, dPar3, dAsg, dExpr, dAnd, dOr, dNot, bAnd, bOr, bNot, dTru, dCB, dCons, dNil, dTup, dLst, dChain, dPass, fCmpI, fIsN, gTp, gsCons, gsNil, gNm, mkTup, dSl, dPart, dNoPart, lim, iLt, iLe, iGt, iGe, mkLst, e1, e2, c0]
    rw [e0, d_law_text_L]
    simp only [dSeq, s1, s2, s3]
    simp [runF, startP, endOf, dRet, dRetN, dIf, dIfS, dB, dBin, dUn, dV, dC, sE, asB, dSeq, dSet, dPar, dPar3, dAsg, dExpr, dAnd, dOr, dNot, bAnd, bOr, bNot, dTru, dCB, dCons, dNil, dTup, dLst, dChain, dPass, fCmpI, fIsN, gTp, gsCons, gsNil, gNm, mkTup, dSl, dPart, dNoPart, lim, iLt, iLe, iGt, iGe]
  · show (B.getD []).length ≤ 6
    cases B with
    | none => decide
    | some b => exact (hB b rfl).2.2
  · show (match X with | none => (0 : Int) | some (n, x) => sgn n (val x : Nat)).natAbs ≤ 12
    cases X with
    | none => decide
    | some nx =>
      obtain ⟨n, x⟩ := nx
      show (sgn n (val x : Nat)).natAbs ≤ 12
      rw [sgn_abs]
      exact (hX n x rfl).2.2.2
end G58
end
section
set_option Elab.async false
set_option linter.all false
set_option maxRecDepth 100000
set_option maxHeartbeats 8000000
set_option exponentiation.threshold 5000
namespace G58
open PySem PySem.Spec PyProof.Rows L2 Mi Ra Tx
def sps : List PV := [tS [48], tS [46], tS [101], tS [45], tS [43], tS [32], tS [49], tS [53], tS [44], tS [69], tS [120], tS [47], tS [95]]
theorem list_sps (S : Sto) : fListS [.str ("0.e-+ 15,Ex/_" : Str)] S = .ok (.nl sps) S := by kernel_rfl
theorem l_spoiled {b : Int} {S : Sto} {l : List Nat} (hk : Hk b S) (hb : b ≤ 900000000) (as : AS l) (ne : l ≠ []) (hl : l.length ≤ 60) : ∃ l' S', F_law_spoiled_L [.ref 0, tS l] S = .ok (tS l') S' ∧ AS l' ∧ l'.length ≤ l.length + 2 ∧ Hk (b + 10) S' := by
  have hl' : l.length ≤ 1000 := by omega
  have pl : 0 < l.length := List.length_pos_iff.mpr ne
  have ln := fun S => tlen (l := l) (S := S) hl'
  obtain ⟨d, S1, e1, a1, b1, k1⟩ := e_draw (k := l.length) hk (by omega) (by omega) (by omega)
  obtain ⟨y, hy, S2, e2, k2⟩ := e_any (xs := sps) k1 (by omega) (by decide) (by decide)
  have hy' : ∃ c : List Nat, y = tS c ∧ AS c ∧ c.length = 1 := by
    have a : ∀ x : List Nat, (x.all fun c => decide (c < 128)) = true → AS x := fun x h c hc => of_decide_eq_true (List.all_eq_true.mp h c hc)
    simp only [sps, List.mem_cons, List.not_mem_nil, or_false] at hy
    rcases hy with rfl | rfl | rfl | rfl | rfl | rfl | rfl | rfl | rfl | rfl | rfl | rfl | rfl <;> exact ⟨_, rfl, a _ (by decide), rfl⟩
  obtain ⟨c, rfl, ac, lc⟩ := hy'
  obtain ⟨n, rfl⟩ : ∃ n : Nat, d = (n : Int) := ⟨d.toNat, by omega⟩
  have nl : n < l.length := by omega
  have t1 := fun S => tsl_to (l := l) (b := n) (S := S) hl'
  have t2 := fun S => tsl_from (l := l) (a := n + 1) (S := S) (by omega) hl'
  have t3 := fun S => tsl_from (l := l) (a := n) (S := S) (by omega) hl'
  have es : ((n + 1 : Nat) : Int) = (n : Int) + 1 := rfl
  rw [es] at t2
  have lt1 : (l.take n).length = n := by rw [List.length_take]; omega
  have lt2 : (l.drop (n + 1)).length = l.length - (n + 1) := List.length_drop
  have lt3 : (l.drop n).length = l.length - n := List.length_drop
  have a1' : AS (l.take n) := as.take n
  have a2' : AS (l.drop (n + 1)) := as.drop (n + 1)
  have a3' : AS (l.drop n) := as.drop n
  have ad : ∀ S, fAdd false (.int (n : Int)) (.int 1) S = .ok (.int ((n : Int) + 1)) S := fun S => w_add
  generalize l.take n = P at *
  generalize l.drop (n + 1) = Q at *
  generalize l.drop n = R at *
  have c1 := fun S => tcat (a := P) (b := c) (S := S) (by omega)
  have lPc : (P ++ c).length = n + 1 := by rw [List.length_append]; omega
  have aPc : AS (P ++ c) := a1'.app ac
  have c2 := fun S => tcat (a := P ++ c) (b := Q) (S := S) (by omega)
  have c3 := fun S => tcat (a := P ++ c) (b := R) (S := S) (by omega)
  have c4 := fun S => tcat (a := P) (b := Q) (S := S) (by omega)
  have c5 := fun S => tcat (a := l) (b := c) (S := S) (by omega)
  have c6 := fun S => tcat (a := c) (b := l) (S := S) (by omega)
  have c7 := fun S => tcat (a := l) (b := [101, 53]) (S := S) (by simp; omega)
  have c8 := fun S => tcat (a := l) (b := [46, 53]) (S := S) (by simp; omega)
  have c9 := fun S => tcat (a := [45]) (b := l) (S := S) (by simp; omega)
  have x7 : (.str ("e5" : Str) : PV) = tS [101, 53] := by kernel_rfl
  have x8 : (.str (".5" : Str) : PV) = tS [46, 53] := by kernel_rfl
  have q7 : ∀ S, fAdd false (tS l) (.str ("e5" : Str)) S = .ok (tS (l ++ [101, 53])) S := fun S => by rw [x7]; exact c7 S
  have q8 : ∀ S, fAdd false (tS l) (.str (".5" : Str)) S = .ok (tS (l ++ [46, 53])) S := fun S => by rw [x8]; exact c8 S
  have q9 : ∀ S, fAdd false (.str ("-" : Str)) (tS l) S = .ok (tS ([45] ++ l)) S := fun S => by rw [l_m]; exact c9 S
  have al : ∀ x : List Nat, (x.all fun c => decide (c < 128)) = true → AS x := fun x h c hc => of_decide_eq_true (List.all_eq_true.mp h c hc)
  obtain ⟨z, hz, S3, e3, k3⟩ := e_any (xs := [tS (P ++ c ++ Q), tS (P ++ c ++ R), tS (P ++ Q), tS (l ++ c), tS (c ++ l), tS (l ++ [101, 53]), tS (l ++ [46, 53]), tS ([45] ++ l)]) k2 (by omega) (by simp) (by simp)
  have hz' : ∃ l' : List Nat, z = tS l' ∧ AS l' ∧ l'.length ≤ l.length + 2 := by
    simp only [List.mem_cons, List.not_mem_nil, or_false] at hz
    rcases hz with rfl | rfl | rfl | rfl | rfl | rfl | rfl | rfl
    · exact ⟨_, rfl, aPc.app a2', by rw [List.length_append]; omega⟩
    · exact ⟨_, rfl, aPc.app a3', by rw [List.length_append]; omega⟩
    · exact ⟨_, rfl, a1'.app a2', by rw [List.length_append]; omega⟩
    · exact ⟨_, rfl, as.app ac, by rw [List.length_append]; omega⟩
    · exact ⟨_, rfl, ac.app as, by rw [List.length_append]; omega⟩
    · exact ⟨_, rfl, as.app (al _ (by decide)), by rw [List.length_append]; simp⟩
    · exact ⟨_, rfl, as.app (al _ (by decide)), by rw [List.length_append]; simp⟩
    · exact ⟨_, rfl, (al [45] (by decide)).app as, by rw [List.length_append]; simp; omega⟩
  obtain ⟨l', rfl, al', ll'⟩ := hz'
  refine ⟨l', S3, ?_, al', ll', k3.mono (by omega)⟩
  have an : ∀ (a b c d e f g h : PV) S, fAdd false (.nl [a, b, c, d]) (.nl [e, f, g, h]) S = .ok (.nl [a, b, c, d, e, f, g, h]) S := fun a b c d e f g h S => rfl
  generalize tS (P ++ c ++ Q) = v1 at *
  generalize tS (P ++ c ++ R) = v2 at *
  generalize tS (P ++ Q) = v3 at *
  generalize tS (l ++ c) = v4 at *
  generalize tS (c ++ l) = v5 at *
  generalize tS (l ++ [101, 53]) = v6 at *
  generalize tS (l ++ [46, 53]) = v7 at *
  generalize tS ([45] ++ l) = v8 at *
  generalize P ++ c = Pc at *
  simp [F_law_spoiled_L, d_law_spoiled_L, runF, startP, endOf, dRet, dRetN, dIf, dIfS, dB, dBin, dUn, dV, dC, sE, asB, dSeq, dSet, dPar, dPar3, dAsg, dExpr, dAnd, dOr, dNot, bAnd, bOr, bNot, dTru, dCB, dCons, dNil, dTup, dLst, dChain, dPass, fCmpI, fIsN, gTp, gsCons, gsNil, gNm, mkTup, dSl, dPart, dNoPart, lim, iLt, iLe, iGt, iGe, ln, e1, list_sps, e2, t1, t2, t3, ad, c1, c2, c3, c4, c5, c6, q7, q8, q9, an, mkLst, e3]
end G58
end
section
set_option Elab.async false
set_option linter.all false
set_option maxRecDepth 100000
set_option maxHeartbeats 8000000
set_option exponentiation.threshold 5000
namespace G58
open PySem PySem.Spec PyProof.Rows L2 Mi Ra Tx
/-! ### summed up, figure by figure -/
theorem e_by {x y : Rat} {S : Sto} (hx : Ok x) (hy : Ok y) (h0 : y ≠ 0) : F_by [eQ x, eQ y] S = rQ (x / y) S := by
  have a := e_raw_by (S := S) hx hy h0
  have z : ∀ S, fEq false (.int y.num) (.int 0) S = .ok (.bl false) S := fun S => by rw [w_eq, beq_eq_false_iff_ne.mpr (fun h => h0 (num0.mp h))]; rfl
  have ev : F_by [eQ x, eQ y] S = endOf (sE (F_raw_by [eQ x, eQ y] S) [some (eQ x), some (eQ y)] fun v S1 => .rt v S1) := by
    simp [F_by, d_by, runF, startP, endOf, dRet, dRetN, dIf, dIfS, dB, dBin, dUn, dV, dC, sE, asB, dSeq, dSet, dPar, dPar3, dAsg, dExpr, dAnd, dOr, dNot, bAnd, bOr, bNot, dTru, dCB, dCons, dNil, dTup, dLst, dChain, dPass, fCmpI, fIsN, gTp, gsCons, gsNil, gNm, mkTup, dSl, dPart, dNoPart, lim, iLt, iLe, iGt, iGe, e_chk2 hx hy, ix_q0, z, -sE]
    try rfl
  rw [ev, a]
  unfold rQ
  split <;> rfl
theorem ten_q : (.tup [.int 10, .int 1] : PV) = eQ (10 : Rat) := by kernel_rfl
theorem one_q : (.tup [.int 1, .int 1] : PV) = eQ (1 : Rat) := by kernel_rfl
theorem nil_q : (.tup [.int 0, .int 1] : PV) = eQ (0 : Rat) := by kernel_rfl
theorem int_q (i : Int) : (.tup [.int i, .int 1] : PV) = eQ (i : Rat) := by
  unfold eQ
  rw [Rat.num_intCast, Rat.den_intCast]
  rfl
theorem ok_i {i : Int} (h : i.natAbs ≤ 10 ^ 60) : Ok (i : Rat) := by
  have := v_ok (i := i) (e := 0) h (by decide)
  rwa [pw0, Rat.mul_one] at this
theorem ok_p {e : Int} (h : e.natAbs ≤ 200) : Ok (pw 10 e) := by
  have := v_ok (i := 1) (e := e) (by decide +kernel) h
  have o : ((1 : Int) : Rat) = 1 := rfl
  rwa [o, Rat.one_mul] at this
def suB : EnP → Sto → SR := (dIfS (dB (dBin (fEq false) (dV 6) (dC (.str ("." : Str))))) (dSet 2 (dTup (dCons (dC (.int 1)) (dCons (dC (.int 1)) (dNil))))) (dIfS (dB (dBin (fEq true) (dV 6) (dC (.str ("-" : Str))))) (dIfS (dB (dBin (fIsN false) (dV 2) (dC .non))) (dSet 1 (dCB F_plus (dCons (dCB F_times (dCons (dV 1) (dCons (dTup (dCons (dC (.int 10)) (dCons (dC (.int 1)) (dNil)))) (dNil)))) (dCons (dTup (dCons (dCB fIntS (dCons (dV 6) (dNil))) (dCons (dC (.int 1)) (dNil)))) (dNil))))) (dSeq (dSet 2 (dCB F_by (dCons (dV 2) (dCons (dTup (dCons (dC (.int 10)) (dCons (dC (.int 1)) (dNil)))) (dNil))))) (dSet 1 (dCB F_plus (dCons (dV 1) (dCons (dCB F_times (dCons (dV 2) (dCons (dTup (dCons (dCB fIntS (dCons (dV 6) (dNil))) (dCons (dC (.int 1)) (dNil)))) (dNil)))) (dNil))))))) (dPass)))
def suP : EnP → Sto → SR := (dSet 1 (dIf (dB (dBin (fCmpI iGt) (dCB fIntS (dCons (dV 5) (dNil))) (dC (.int 0)))) (dCB F_times (dCons (dV 1) (dCons (dTup (dCons (dC (.int 10)) (dCons (dC (.int 1)) (dNil)))) (dNil)))) (dCB F_by (dCons (dV 1) (dCons (dTup (dCons (dC (.int 10)) (dCons (dC (.int 1)) (dNil)))) (dNil))))))
def fig (l : List Nat) : List PV := l.map fun c => tS [c]
/-- M times ten to the j-th -/
def vl (M : Nat) (j : Int) : Rat := ((M : Int) : Rat) * pw 10 j
theorem vl_ok {M : Nat} {j : Int} (h : M ≤ 10 ^ 60) (hj : j.natAbs ≤ 200) : Ok (vl M j) := v_ok (by rw [Int.natAbs_natCast]; exact h) hj
theorem one_fig {c : Nat} (hc : 48 ≤ c ∧ c ≤ 57) : (∀ S, fIntS [tS [c]] S = .ok (.int ((c - 48 : Nat) : Int)) S) ∧ (∀ S, fEq false (tS [c]) (.str ("." : Str)) S = .ok (.bl false) S) ∧ (∀ S, fEq true (tS [c]) (.str ("-" : Str)) S = .ok (.bl true) S) := by
  refine ⟨fun S => ?_, fun S => ?_, fun S => ?_⟩
  · have it := tint (l := [c]) (S := S) (fun d hd => by rw [List.mem_singleton.mp hd]; exact hc) (by simp) (by simp)
    rwa [val_one] at it
  · rw [l_p, teq false (as1 (by omega)) (as1 (by decide)), decide_eq_false (by simp; omega)]; rfl
  · rw [l_m, teq true (as1 (by omega)) (as1 (by decide)), decide_eq_false (by simp; omega)]; rfl
theorem t10 : Ok (10 : Rat) := ok_i (i := 10) (by decide +kernel)
theorem ten_ne : (10 : Rat) ≠ 0 := by decide +kernel
theorem su_A {tx sg hd po tu : Option PV} : ∀ (A : List Nat) (M : Nat) (fg : Option PV) (R : List PV) (S : Sto), AD A → (M + 1) * 10 ^ A.length ≤ 10 ^ 60 →
    ∃ fg', forP (gNm 6) suB (fig A ++ R) [tx, some (eQ (vl M 0)), some .non, sg, hd, po, fg, tu] S = forP (gNm 6) suB R [tx, some (eQ (vl (A.foldl (fun acc c => acc * 10 + (c - 48)) M) 0)), some .non, sg, hd, po, fg', tu] S
  | [], M, fg, R, S, _, _ => ⟨fg, rfl⟩
  | c :: r, M, fg, R, S, h, hb => by
    have hc := h.head
    have e10 : 10 ^ (r.length + 1) = 10 * 10 ^ r.length := by rw [Nat.pow_succ, Nat.mul_comm]
    rw [List.length_cons, e10, ← Nat.mul_assoc] at hb
    have hb' : (M * 10 + (c - 48) + 1) * 10 ^ r.length ≤ 10 ^ 60 := Nat.le_trans (Nat.mul_le_mul_right _ (by omega)) hb
    have p0 : 1 ≤ 10 ^ r.length := Nat.pow_pos (by decide)
    have hm : (M + 1) * 10 ≤ 10 ^ 60 := Nat.le_trans (Nat.le_mul_of_pos_right _ p0) hb
    obtain ⟨fg', ih⟩ := su_A (sg := sg) (hd := hd) (po := po) (tu := tu) (tx := tx) r (M * 10 + (c - 48)) (some (tS [c])) R S h.tail hb'
    refine ⟨fg', ?_⟩
    obtain ⟨it, q1, q2⟩ := one_fig hc
    have m1 : ∀ S, F_times [eQ (vl M 0), eQ 10] S = .ok (eQ (vl (M * 10) 0)) S := fun S => by
      rw [e_times (vl_ok (by omega) (by decide)) t10]
      unfold vl
      rw [mul10]
      exact rQ_ok (vl_ok (by omega) (by decide))
    have o4 : Ok (vl (c - 48) 0) := vl_ok (Nat.le_trans (show c - 48 ≤ 10 by omega) (by decide +kernel)) (by decide)
    have m2 : ∀ S, F_plus [eQ (vl (M * 10) 0), eQ (((c - 48 : Nat) : Int) : Rat)] S = .ok (eQ (vl (M * 10 + (c - 48)) 0)) S := fun S => by
      have z : (((c - 48 : Nat) : Int) : Rat) = vl (c - 48) 0 := by unfold vl; rw [pw0, Rat.mul_one]
      rw [z, e_plus (vl_ok (by omega) (by decide)) o4]
      unfold vl
      rw [horn]
      exact rQ_ok (vl_ok (by omega) (by decide))
    show forP (gNm 6) suB (tS [c] :: (fig r ++ R)) _ S = _
    rw [forP]
    have g : gNm 6 (tS [c]) [tx, some (eQ (vl M 0)), some .non, sg, hd, po, fg, tu] S = .ok [tx, some (eQ (vl M 0)), some .non, sg, hd, po, some (tS [c]), tu] S := rfl
    have b : suB [tx, some (eQ (vl M 0)), some .non, sg, hd, po, some (tS [c]), tu] S = .nx [tx, some (eQ (vl (M * 10 + (c - 48)) 0)), some .non, sg, hd, po, some (tS [c]), tu] S := by
      clear ih g
      generalize ((c - 48 : Nat) : Int) = d at *
      have iq := int_q d
      generalize vl (M * 10 + (c - 48)) 0 = v2 at *
      generalize vl (M * 10) 0 = v1 at *
      generalize vl M 0 = v0 at *
      simp [suB, runF, startP, endOf, dRet, dRetN, dIf, dIfS, dB, dBin, dUn, dV, dC, sE, asB, dSeq, dSet, dPar, dPar3, dAsg, dExpr, dAnd, dOr, dNot, bAnd, bOr, bNot, dTru, dCB, dCons, dNil, dTup, dLst, dChain, dPass, fCmpI, fIsN, gTp, gsCons, gsNil, gNm, mkTup, dSl, dPart, dNoPart, lim, iLt, iLe, iGt, iGe, q1, q2, it, m1, m2, ten_q, iq, fIsN, isNon]
    rw [g]
    simp only [sE, b]
    exact ih
theorem su_B {tx sg hd po tu : Option PV} : ∀ (B : List Nat) (M k : Nat) (fg : Option PV) (R : List PV) (S : Sto), AD B → (M + 1) * 10 ^ B.length ≤ 10 ^ 60 → k + B.length ≤ 100 →
    ∃ fg', forP (gNm 6) suB (fig B ++ R) [tx, some (eQ (vl M (-(k : Int)))), some (eQ (pw 10 (-(k : Int)))), sg, hd, po, fg, tu] S = forP (gNm 6) suB R [tx, some (eQ (vl (B.foldl (fun acc c => acc * 10 + (c - 48)) M) (-((k + B.length : Nat) : Int)))), some (eQ (pw 10 (-((k + B.length : Nat) : Int)))), sg, hd, po, fg', tu] S
  | [], M, k, fg, R, S, _, _, _ => ⟨fg, rfl⟩
  | c :: r, M, k, fg, R, S, h, hb, hk => by
    have hc := h.head
    have e10 : 10 ^ (r.length + 1) = 10 * 10 ^ r.length := by rw [Nat.pow_succ, Nat.mul_comm]
    rw [List.length_cons, e10, ← Nat.mul_assoc] at hb
    have hb' : (M * 10 + (c - 48) + 1) * 10 ^ r.length ≤ 10 ^ 60 := Nat.le_trans (Nat.mul_le_mul_right _ (by omega)) hb
    have p0 : 1 ≤ 10 ^ r.length := Nat.pow_pos (by decide)
    have hm : (M + 1) * 10 ≤ 10 ^ 60 := Nat.le_trans (Nat.le_mul_of_pos_right _ p0) hb
    rw [List.length_cons] at hk
    obtain ⟨fg', ih⟩ := su_B (sg := sg) (hd := hd) (po := po) (tu := tu) (tx := tx) r (M * 10 + (c - 48)) (k + 1) (some (tS [c])) R S h.tail hb' (by omega)
    refine ⟨fg', ?_⟩
    obtain ⟨it, q1, q2⟩ := one_fig hc
    have ek : (-((k + 1 : Nat) : Int)) = -(k : Int) - 1 := by omega
    have el : k + (r.length + 1) = k + 1 + r.length := by omega
    rw [List.length_cons, List.foldl_cons, el]
    rw [ek] at ih
    have m0 : ∀ S, F_by [eQ (pw 10 (-(k : Int))), eQ 10] S = .ok (eQ (pw 10 (-(k : Int) - 1))) S := fun S => by
      rw [e_by (ok_p (by omega)) t10 ten_ne, one10]
      exact rQ_ok (ok_p (by omega))
    have c10 : c - 48 ≤ 10 ^ 60 := Nat.le_trans (show c - 48 ≤ 10 by omega) (by decide +kernel)
    have o4 : Ok (vl (c - 48) (-(k : Int) - 1)) := vl_ok c10 (by omega)
    have m1 : ∀ S, F_times [eQ (pw 10 (-(k : Int) - 1)), eQ (((c - 48 : Nat) : Int) : Rat)] S = .ok (eQ (vl (c - 48) (-(k : Int) - 1))) S := fun S => by
      rw [e_times (ok_p (by omega)) (ok_i (by rw [Int.natAbs_natCast]; exact c10)), Rat.mul_comm]
      exact rQ_ok o4
    have m2 : ∀ S, F_plus [eQ (vl M (-(k : Int))), eQ (vl (c - 48) (-(k : Int) - 1))] S = .ok (eQ (vl (M * 10 + (c - 48)) (-(k : Int) - 1))) S := fun S => by
      rw [e_plus (vl_ok (by omega) (by omega)) o4]
      unfold vl
      rw [shift, horn]
      exact rQ_ok (vl_ok (by omega) (by omega))
    show forP (gNm 6) suB (tS [c] :: (fig r ++ R)) _ S = _
    rw [forP]
    have g : gNm 6 (tS [c]) [tx, some (eQ (vl M (-(k : Int)))), some (eQ (pw 10 (-(k : Int)))), sg, hd, po, fg, tu] S = .ok [tx, some (eQ (vl M (-(k : Int)))), some (eQ (pw 10 (-(k : Int)))), sg, hd, po, some (tS [c]), tu] S := rfl
    have b : suB [tx, some (eQ (vl M (-(k : Int)))), some (eQ (pw 10 (-(k : Int)))), sg, hd, po, some (tS [c]), tu] S = .nx [tx, some (eQ (vl (M * 10 + (c - 48)) (-(k : Int) - 1))), some (eQ (pw 10 (-(k : Int) - 1))), sg, hd, po, some (tS [c]), tu] S := by
      clear ih g
      generalize ((c - 48 : Nat) : Int) = d at *
      have iq := int_q d
      generalize vl (M * 10 + (c - 48)) (-(k : Int) - 1) = v2 at *
      generalize vl (c - 48) (-(k : Int) - 1) = v1 at *
      generalize vl M (-(k : Int)) = v0 at *
      generalize pw 10 (-(k : Int) - 1) = p1 at *
      generalize pw 10 (-(k : Int)) = p0 at *
      have ni : isNon (eQ p0) = false := rfl
      simp [suB, runF, startP, endOf, dRet, dRetN, dIf, dIfS, dB, dBin, dUn, dV, dC, sE, asB, dSeq, dSet, dPar, dPar3, dAsg, dExpr, dAnd, dOr, dNot, bAnd, bOr, bNot, dTru, dCB, dCons, dNil, dTup, dLst, dChain, dPass, fCmpI, fIsN, gTp, gsCons, gsNil, gNm, mkTup, dSl, dPart, dNoPart, lim, iLt, iLe, iGt, iGe, q1, q2, it, m0, m1, m2, ten_q, iq, fIsN, ni]
    rw [g]
    simp only [sE, b]
    exact ih
end G58
end
section
set_option Elab.async false
set_option linter.all false
set_option maxRecDepth 100000
set_option maxHeartbeats 8000000
set_option exponentiation.threshold 5000
namespace G58
open PySem PySem.Spec PyProof.Rows L2 Mi Ra Tx
theorem su_P {tx pt sg hd fg : Option PV} {p : PV} {e : Int} {M : Nat} (hp : ∀ S, fIntS [p] S = .ok (.int e) S) (hM : M ≤ 10 ^ 60) : ∀ (xs : List PV) (j : Int) (tu : Option PV) (S : Sto), j.natAbs + xs.length ≤ 150 →
    ∃ tu', forP (gNm 7) suP xs [tx, some (eQ (vl M j)), pt, sg, hd, some p, fg, tu] S = .nx [tx, some (eQ (vl M (if 0 < e then j + (xs.length : Nat) else j - (xs.length : Nat)))), pt, sg, hd, some p, fg, tu'] S
  | [], j, tu, S, _ => ⟨tu, by simp [forP]⟩
  | x :: xs, j, tu, S, h => by
    rw [List.length_cons] at h
    have g : gNm 7 x [tx, some (eQ (vl M j)), pt, sg, hd, some p, fg, tu] S = .ok [tx, some (eQ (vl M j)), pt, sg, hd, some p, fg, some x] S := rfl
    have tu10 : ∀ S, F_times [eQ (vl M j), eQ 10] S = .ok (eQ (vl M (j + 1))) S := fun S => by
      rw [e_times (vl_ok hM (by omega)) t10]
      unfold vl
      rw [up10]
      exact rQ_ok (vl_ok hM (by omega))
    have by10 : ∀ S, F_by [eQ (vl M j), eQ 10] S = .ok (eQ (vl M (j - 1))) S := fun S => by
      rw [e_by (vl_ok hM (by omega)) t10 ten_ne]
      unfold vl
      rw [dn10]
      exact rQ_ok (vl_ok hM (by omega))
    obtain ⟨j', ej⟩ : ∃ j', j' = if 0 < e then j + 1 else j - 1 := ⟨_, rfl⟩
    have b : suP [tx, some (eQ (vl M j)), pt, sg, hd, some p, fg, some x] S = .nx [tx, some (eQ (vl M j')), pt, sg, hd, some p, fg, some x] S := by
      by_cases c : 0 < e
      · rw [if_pos c] at ej
        rw [ej]
        simp [suP, runF, startP, endOf, dRet, dRetN, dIf, dIfS, dB, dBin, dUn, dV, dC, sE, asB, dSeq, dSet, dPar, dPar3, dAsg, dExpr, dAnd, dOr, dNot, bAnd, bOr, bNot, dTru, dCB, dCons, dNil, dTup, dLst, dChain, dPass, fCmpI, fIsN, gTp, gsCons, gsNil, gNm, mkTup, dSl, dPart, dNoPart, lim, iLt, iLe, iGt, iGe, hp, c, ten_q, tu10]
      · rw [if_neg c] at ej
        rw [ej]
        simp [suP, runF, startP, endOf, dRet, dRetN, dIf, dIfS, dB, dBin, dUn, dV, dC, sE, asB, dSeq, dSet, dPar, dPar3, dAsg, dExpr, dAnd, dOr, dNot, bAnd, bOr, bNot, dTru, dCB, dCons, dNil, dTup, dLst, dChain, dPass, fCmpI, fIsN, gTp, gsCons, gsNil, gNm, mkTup, dSl, dPart, dNoPart, lim, iLt, iLe, iGt, iGe, hp, c, ten_q, by10]
    obtain ⟨tu', ih⟩ := su_P (tx := tx) (pt := pt) (sg := sg) (hd := hd) (fg := fg) hp hM xs j' (some x) S (by rw [ej]; split <;> omega)
    refine ⟨tu', ?_⟩
    rw [forP, g]
    simp only [sE, b]
    rw [ih, ej, List.length_cons]
    by_cases c : 0 < e
    · rw [if_pos c, if_pos c, if_pos c, show j + 1 + ((xs.length : Nat) : Int) = j + ((xs.length + 1 : Nat) : Int) by omega]
    · rw [if_neg c, if_neg c, if_neg c, show j - 1 - ((xs.length : Nat) : Int) = j - ((xs.length + 1 : Nat) : Int) by omega]
/-- what a form tells -/
def Fo.q (f : Fo) : Rat := ((sgn f.neg (val (f.A ++ f.b) : Nat) : Int) : Rat) * pw 10 (f.e - (f.b.length : Int))
theorem sg_q {f : Fo} : (if f.neg = true then 0 - vl (val (f.A ++ f.b)) (f.e - (f.b.length : Int)) else vl (val (f.A ++ f.b)) (f.e - (f.b.length : Int))) = Fo.q f := by
  unfold Fo.q vl sgn
  cases f.neg with
  | false => rfl
  | true =>
    simp only [if_true]
    rw [Rat.intCast_neg]
    generalize pw 10 _ = p
    generalize (((val (f.A ++ f.b) : Nat) : Int) : Rat) = x
    grind
theorem int_px {f : Fo} (h : f.Ok) (S : Sto) : fIntS [tS f.px] S = .ok (.int f.e) S := by
  cases q : f.X with
  | none =>
    have e1 : f.px = [48] := by unfold Fo.px; rw [q]
    have e2 : f.e = 0 := by unfold Fo.e; rw [q]
    rw [e1, e2]
    kernel_rfl
  | some nx =>
    obtain ⟨n, x⟩ := nx
    obtain ⟨h1, h2, h3, h4⟩ := h.X n x q
    have e1 : f.px = (if n = true then [45] else []) ++ x := by unfold Fo.px; rw [q]
    have e2 : f.e = sgn n (val x : Nat) := by unfold Fo.e; rw [q]
    rw [e1, e2]
    cases n with
    | true => exact tint_neg (l := x) h1 h2 (by omega)
    | false => exact tint (l := x) h1 h2 (by omega)
theorem fold_z (l : List Nat) : l.foldl (fun acc c => acc * 10 + (c - 48)) 0 = val l := rfl
theorem su_head {f : Fo} (h : f.Ok) (lA : f.A.length ≤ 20) (lB : f.b.length ≤ 20) {tx sg hd po fg tu : Option PV} (S : Sto) :
    ∃ pt fg', forP (gNm 6) suB (fig f.hd) [tx, some (eQ (vl 0 0)), some .non, sg, hd, po, fg, tu] S = .nx [tx, some (eQ (vl (val (f.A ++ f.b)) (-((f.b.length : Nat) : Int)))), pt, sg, hd, po, fg', tu] S := by
  have c20 : ∀ n : Nat, n ≤ 20 → 10 ^ n ≤ 10 ^ 20 := fun n hn => Nat.pow_le_pow_right (by decide) hn
  -- the figures behind the sign
  have main : ∀ fg, ∃ pt fg', forP (gNm 6) suB (fig (f.A ++ (match f.B with | none => [] | some b => 46 :: b))) [tx, some (eQ (vl 0 0)), some .non, sg, hd, po, fg, tu] S = .nx [tx, some (eQ (vl (val (f.A ++ f.b)) (-((f.b.length : Nat) : Int)))), pt, sg, hd, po, fg', tu] S := by
    intro fg
    have ea : ∀ R : List Nat, fig (f.A ++ R) = fig f.A ++ fig R := fun R => List.map_append
    rw [ea]
    obtain ⟨fg1, e1⟩ := su_A (tx := tx) (sg := sg) (hd := hd) (po := po) (tu := tu) f.A 0 fg (fig (match f.B with | none => [] | some b => 46 :: b)) S h.A (by have a := c20 _ lA; rw [Nat.zero_add, Nat.one_mul]; exact Nat.le_trans a (by decide +kernel))
    rw [e1, fold_z]
    cases q : f.B with
    | none =>
      have eb : f.b = [] := by unfold Fo.b; rw [q]; rfl
      rw [eb, List.append_nil]
      exact ⟨_, _, rfl⟩
    | some B =>
      have eb : f.b = B := by unfold Fo.b; rw [q]; rfl
      rw [eb]
      rw [eb] at lB
      have hv := val_lt h.A
      have hm : (val f.A + 1) * 10 ^ B.length ≤ 10 ^ 60 := by
        have a := Nat.mul_le_mul (show val f.A + 1 ≤ 10 ^ 20 from Nat.le_trans hv (c20 _ lA)) (c20 _ lB)
        exact Nat.le_trans a (by decide +kernel)
      obtain ⟨fg2, e2⟩ := su_B (tx := tx) (sg := sg) (hd := hd) (po := po) (tu := tu) B (val f.A) 0 (some (tS [46])) [] S (h.B B q).1 hm (by omega)
      have z0 : (-((0 : Nat) : Int)) = 0 := rfl
      rw [List.append_nil, z0, Nat.zero_add, fold_val, ← val_app] at e2
      refine ⟨some (eQ (pw 10 (-((B.length : Nat) : Int)))), fg2, ?_⟩
      show forP (gNm 6) suB (tS [46] :: fig B) _ S = _
      rw [forP]
      have g : gNm 6 (tS [46]) [tx, some (eQ (vl (val f.A) 0)), some .non, sg, hd, po, fg1, tu] S = .ok [tx, some (eQ (vl (val f.A) 0)), some .non, sg, hd, po, some (tS [46]), tu] S := rfl
      have q1 : ∀ S, fEq false (tS [46]) (.str ("." : Str)) S = .ok (.bl true) S := fun S => by
        rw [l_p, teq false (as1 (by decide)) (as1 (by decide))]; rfl
      have b : suB [tx, some (eQ (vl (val f.A) 0)), some .non, sg, hd, po, some (tS [46]), tu] S = .nx [tx, some (eQ (vl (val f.A) 0)), some (eQ (pw 10 0)), sg, hd, po, some (tS [46]), tu] S := by
        rw [pw0]
        generalize vl (val f.A) 0 = v at *
        simp [suB, runF, startP, endOf, dRet, dRetN, dIf, dIfS, dB, dBin, dUn, dV, dC, sE, asB, dSeq, dSet, dPar, dPar3, dAsg, dExpr, dAnd, dOr, dNot, bAnd, bOr, bNot, dTru, dCB, dCons, dNil, dTup, dLst, dChain, dPass, fCmpI, fIsN, gTp, gsCons, gsNil, gNm, mkTup, dSl, dPart, dNoPart, lim, iLt, iLe, iGt, iGe, q1, one_q]
      rw [g]
      simp only [sE, b]
      rw [e2]
      rfl
  unfold Fo.hd
  cases q : f.neg with
  | false =>
    rw [if_neg Bool.false_ne_true, List.nil_append]
    exact main fg
  | true =>
    rw [if_pos rfl]
    obtain ⟨pt, fg', e⟩ := main (some (tS [45]))
    refine ⟨pt, fg', ?_⟩
    show forP (gNm 6) suB (tS [45] :: fig _) _ S = _
    rw [forP]
    have g : gNm 6 (tS [45]) [tx, some (eQ (vl 0 0)), some .non, sg, hd, po, fg, tu] S = .ok [tx, some (eQ (vl 0 0)), some .non, sg, hd, po, some (tS [45]), tu] S := rfl
    have q1 : ∀ S, fEq false (tS [45]) (.str ("." : Str)) S = .ok (.bl false) S := fun S => by
      rw [l_p, teq false (as1 (by decide)) (as1 (by decide))]; rfl
    have q2 : ∀ S, fEq true (tS [45]) (.str ("-" : Str)) S = .ok (.bl false) S := fun S => by
      rw [l_m, teq true (as1 (by decide)) (as1 (by decide))]; rfl
    have b : suB [tx, some (eQ (vl 0 0)), some .non, sg, hd, po, some (tS [45]), tu] S = .nx [tx, some (eQ (vl 0 0)), some .non, sg, hd, po, some (tS [45]), tu] S := by
      generalize vl 0 0 = v at *
      simp [suB, runF, startP, endOf, dRet, dRetN, dIf, dIfS, dB, dBin, dUn, dV, dC, sE, asB, dSeq, dSet, dPar, dPar3, dAsg, dExpr, dAnd, dOr, dNot, bAnd, bOr, bNot, dTru, dCB, dCons, dNil, dTup, dLst, dChain, dPass, fCmpI, fIsN, gTp, gsCons, gsNil, gNm, mkTup, dSl, dPart, dNoPart, lim, iLt, iLe, iGt, iGe, q1, q2]
    rw [g]
    simp only [sE, b]
    exact e
end G58
end
section
set_option Elab.async false
set_option linter.all false
set_option maxRecDepth 100000
set_option maxHeartbeats 8000000
set_option exponentiation.threshold 5000
namespace G58
open PySem PySem.Spec PyProof.Rows L2 Mi Ra Tx
theorem sp_txt {f : Fo} (h : f.Ok) (hl : f.txt.length ≤ 100) (S : Sto) : fSplit (tS f.txt) (.str ("e" : Str)) S = .ok (.nl (if f.X = none then [tS f.hd] else [tS f.hd, tS f.px])) S := by
  rw [l_e]
  show (if (((sS [101]).length == 0) = false ∧ (sS f.txt).length ≤ 100000) then mkLst false ((Txt.split (sS f.txt) (sS [101])).map PV.str) S else .bad) = _
  rw [if_pos ⟨rfl, by rw [sLen]; omega⟩, spl_txt h]
  by_cases c : f.X = none
  · rw [if_pos c, if_pos c]; rfl
  · rw [if_neg c, if_neg c]; rfl
theorem in_e {f : Fo} (h : f.Ok) (S : Sto) : fInS false (.str ("e" : Str)) (tS f.txt) S = .ok (.bl (!decide (f.X = none))) S := by
  rw [l_e]
  show Res.ok (PV.bl (!(Builtin.Str.occurrences (sS f.txt) (sS [101]) 0 (sS f.txt).length 1).isEmpty)) S = _
  rw [SX.in_one, in_txt h]
theorem px_none {f : Fo} (e : f.X = none) : tS f.px = .str ("0" : Str) := by
  have : f.px = [48] := by unfold Fo.px; rw [e]
  rw [this]
  kernel_rfl
theorem l_summed {f : Fo} (h : f.Ok) (lA : f.A.length ≤ 20) (lB : f.b.length ≤ 20) (le : f.e.natAbs ≤ 100) (S : Sto) : F_law_summed_L [tS f.txt] S = .ok (eQ (Fo.q f)) S := by
  have len := Fo.len h
  have as := Fo.as h
  obtain ⟨t0, ts0, te0⟩ := is_neg as (by omega) S
  have te0 := te0 false
  simp only [Bool.false_eq_true, if_false] at te0
  rw [Fo.neg_at h] at te0
  have sp := sp_txt h (by omega)
  have ie := in_e h
  have e0 : F_law_summed_L [tS f.txt] S = endOf (d_law_summed_L [some (tS f.txt), none, none, none, none, none, none, none] S) := rfl
  have z0 : (0 : Rat) = vl 0 0 := by decide +kernel
  have st : isStr (tS f.txt) = true := rfl
  have s1 : (dPar3 1 2 3 (dCons (dTup (dCons (dC (.int 0)) (dCons (dC (.int 1)) (dNil)))) (dCons (dC .non) (dCons (dBin (fEq false) (dSl false (dV 0) (dNoPart) (dPart (dC (.int 1)))) (dC (.str ("-" : Str)))) (dNil))))) [some (tS f.txt), none, none, none, none, none, none, none] S = .nx [some (tS f.txt), some (eQ (vl 0 0)), some .non, some (.bl f.neg), none, none, none, none] S := by
    rw [← z0]
    simp [runF, startP, endOf, dRet, dRetN, dIf, dIfS, dB, dBin, dUn, dV, dC, sE, asB, dSeq, dSet, dPar, dPar3, dAsg, dExpr, dAnd, dOr, dNot, bAnd, bOr, bNot, dTru, dCB, dCons, dNil, dTup, dLst, dChain, dPass, fCmpI, fIsN, gTp, gsCons, gsNil, gNm, mkTup, dSl, dPart, dNoPart, lim, iLt, iLe, iGt, iGe, ts0, te0, nil_q]
  have s2 : (dPar 4 5 (dCons (dBin fIx (dM1 fSplit (dV 0) (dC (.str ("e" : Str)))) (dC (.int 0))) (dCons (dIf (dB (dBin (fInS false) (dC (.str ("e" : Str))) (dV 0))) (dBin fIx (dM1 fSplit (dV 0) (dC (.str ("e" : Str)))) (dC (.int 1))) (dC (.str ("0" : Str)))) (dNil)))) [some (tS f.txt), some (eQ (vl 0 0)), some .non, some (.bl f.neg), none, none, none, none] S = .nx [some (tS f.txt), some (eQ (vl 0 0)), some .non, some (.bl f.neg), some (tS f.hd), some (tS f.px), none, none] S := by
    generalize vl 0 0 = v at *
    by_cases c : f.X = none
    · rw [px_none c]
      rw [if_pos c] at sp
      rw [decide_eq_true c] at ie
      have x0 : ∀ a S, fIx (.nl [a]) (.int 0) S = .ok a S := fun a S => rfl
      simp [runF, startP, endOf, dRet, dRetN, dIf, dIfS, dB, dBin, dUn, dV, dC, sE, asB, dSeq, dSet, dPar, dPar3, dAsg, dExpr, dAnd, dOr, dNot, bAnd, bOr, bNot, dTru, dCB, dCons, dNil, dTup, dLst, dChain, dPass, fCmpI, fIsN, gTp, gsCons, gsNil, gNm, mkTup, dSl, dPart, dNoPart, lim, iLt, iLe, iGt, iGe, dM1, sp, ie, st, x0]
    · rw [if_neg c] at sp
      rw [decide_eq_false c] at ie
      have x0 : ∀ a b S, fIx (.nl [a, b]) (.int 0) S = .ok a S := fun a b S => rfl
      have x1 : ∀ a b S, fIx (.nl [a, b]) (.int 1) S = .ok b S := fun a b S => rfl
      simp [runF, startP, endOf, dRet, dRetN, dIf, dIfS, dB, dBin, dUn, dV, dC, sE, asB, dSeq, dSet, dPar, dPar3, dAsg, dExpr, dAnd, dOr, dNot, bAnd, bOr, bNot, dTru, dCB, dCons, dNil, dTup, dLst, dChain, dPass, fCmpI, fIsN, gTp, gsCons, gsNil, gNm, mkTup, dSl, dPart, dNoPart, lim, iLt, iLe, iGt, iGe, dM1, sp, ie, st, x0, x1]
  obtain ⟨pt, fg, s3⟩ := su_head h lA lB (tx := some (tS f.txt)) (sg := some (.bl f.neg)) (hd := some (tS f.hd)) (po := some (tS f.px)) (fg := none) (tu := none) S
  have ip := int_px h
  have vb := val_lt (h.A.app (show AD f.b from by
    unfold Fo.b
    cases q : f.B with
    | none => exact fun c hc => nomatch hc
    | some b => exact (h.B b q).1))
  have M60 : val (f.A ++ f.b) ≤ 10 ^ 60 := Nat.le_trans (Nat.le_of_lt vb) (Nat.pow_le_pow_right (by decide) (by rw [List.length_append]; omega))
  obtain ⟨tu, s4⟩ := su_P (tx := some (tS f.txt)) (pt := pt) (sg := some (.bl f.neg)) (hd := some (tS f.hd)) (fg := fg) ip M60 (upTo 0 f.e.natAbs) (-((f.b.length : Nat) : Int)) none S (by rw [up_len]; omega)
  rw [up_len] at s4
  have ej : (if 0 < f.e then -((f.b.length : Nat) : Int) + (f.e.natAbs : Nat) else -((f.b.length : Nat) : Int) - (f.e.natAbs : Nat)) = f.e - (f.b.length : Int) := by split <;> omega
  rw [ej] at s4
  have i1 : iSeq (dV 4) [some (tS f.txt), some (eQ (vl 0 0)), some .non, some (.bl f.neg), some (tS f.hd), some (tS f.px), none, none] S = .ok (fig f.hd) S := rfl
  have ab : (if f.e < 0 then -f.e else f.e) = ((f.e.natAbs : Nat) : Int) := by split <;> omega
  have i2 : iRange (dCons (dCB fAbs (dCons (dCB fIntS (dCons (dV 5) (dNil))) (dNil))) (dNil)) [some (tS f.txt), some (eQ (vl (val (f.A ++ f.b)) (-((f.b.length : Nat) : Int)))), pt, some (.bl f.neg), some (tS f.hd), some (tS f.px), fg, none] S = .ok (upTo 0 f.e.natAbs) S := by
    have q : (dCons (dCB fAbs (dCons (dCB fIntS (dCons (dV 5) (dNil))) (dNil))) (dNil)) [some (tS f.txt), some (eQ (vl (val (f.A ++ f.b)) (-((f.b.length : Nat) : Int)))), pt, some (.bl f.neg), some (tS f.hd), some (tS f.px), fg, none] S = .ok [.int ((f.e.natAbs : Nat) : Int)] S := by
      generalize vl (val (f.A ++ f.b)) (-((f.b.length : Nat) : Int)) = v
      simp [runF, startP, endOf, dRet, dRetN, dIf, dIfS, dB, dBin, dUn, dV, dC, sE, asB, dSeq, dSet, dPar, dPar3, dAsg, dExpr, dAnd, dOr, dNot, bAnd, bOr, bNot, dTru, dCB, dCons, dNil, dTup, dLst, dChain, dPass, fCmpI, fIsN, gTp, gsCons, gsNil, gNm, mkTup, dSl, dPart, dNoPart, lim, iLt, iLe, iGt, iGe, ip, w_abs, ab]
    unfold iRange
    rw [q, Res.bind_ok]
    show (if -1000000 ≤ ((f.e.natAbs : Nat) : Int) ∧ ((f.e.natAbs : Nat) : Int) ≤ 1000000 then Res.ok (upTo 0 ((f.e.natAbs : Nat) : Int).toNat) S else .bad) = _
    rw [if_pos (by omega), Int.toNat_natCast]
  have dd : d_law_summed_L = dSeq (dPar3 1 2 3 (dCons (dTup (dCons (dC (.int 0)) (dCons (dC (.int 1)) (dNil)))) (dCons (dC .non) (dCons (dBin (fEq false) (dSl false (dV 0) (dNoPart) (dPart (dC (.int 1)))) (dC (.str ("-" : Str)))) (dNil))))) (dSeq (dPar 4 5 (dCons (dBin fIx (dM1 fSplit (dV 0) (dC (.str ("e" : Str)))) (dC (.int 0))) (dCons (dIf (dB (dBin (fInS false) (dC (.str ("e" : Str))) (dV 0))) (dBin fIx (dM1 fSplit (dV 0) (dC (.str ("e" : Str)))) (dC (.int 1))) (dC (.str ("0" : Str)))) (dNil)))) (dSeq (dFor (iSeq (dV 4)) (gNm 6) suB) (dSeq (dFor (iRange (dCons (dCB fAbs (dCons (dCB fIntS (dCons (dV 5) (dNil))) (dNil))) (dNil))) (gNm 7) suP) (dRet (dIf (dTru (dV 3)) (dCB F_less (dCons (dTup (dCons (dC (.int 0)) (dCons (dC (.int 1)) (dNil)))) (dCons (dV 1) (dNil)))) (dV 1)))))) := rfl
  have ok1 : Ok (vl (val (f.A ++ f.b)) (f.e - (f.b.length : Int))) := vl_ok M60 (by omega)
  have ok0 : Ok (0 : Rat) := by rw [z0]; exact vl_ok (by decide +kernel) (by decide)
  have sq := sg_q (f := f)
  have okq : Ok (Fo.q f) := v_ok (by rw [sgn_abs]; exact M60) (by omega)
  have l0 : f.neg = true → ∀ S, F_less [eQ 0, eQ (vl (val (f.A ++ f.b)) (f.e - (f.b.length : Int)))] S = .ok (eQ (Fo.q f)) S := fun hn S => by
    rw [e_less ok0 ok1, ← sq, if_pos hn]
    rw [if_pos hn] at sq
    rw [sq]
    exact rQ_ok okq
  rw [e0, dd]
  simp only [dSeq, s1, s2, dFor, i1, sE, s3, i2, s4]
  generalize vl (val (f.A ++ f.b)) (f.e - (f.b.length : Int)) = v at *
  cases hn : f.neg with
  | false =>
    rw [hn, if_neg Bool.false_ne_true] at sq
    rw [← sq]
    simp [runF, startP, endOf, dRet, dRetN, dIf, dIfS, dB, dBin, dUn, dV, dC, sE, asB, dSeq, dSet, dPar, dPar3, dAsg, dExpr, dAnd, dOr, dNot, bAnd, bOr, bNot, dTru, dCB, dCons, dNil, dTup, dLst, dChain, dPass, fCmpI, fIsN, gTp, gsCons, gsNil, gNm, mkTup, dSl, dPart, dNoPart, lim, iLt, iLe, iGt, iGe, truP]
  | true =>
    have l0 := l0 hn
    simp [runF, startP, endOf, dRet, dRetN, dIf, dIfS, dB, dBin, dUn, dV, dC, sE, asB, dSeq, dSet, dPar, dPar3, dAsg, dExpr, dAnd, dOr, dNot, bAnd, bOr, bNot, dTru, dCB, dCons, dNil, dTup, dLst, dChain, dPass, fCmpI, fIsN, gTp, gsCons, gsNil, gNm, mkTup, dSl, dPart, dNoPart, lim, iLt, iLe, iGt, iGe, truP, nil_q, l0]
end G58
end
section
set_option Elab.async false
set_option linter.all false
set_option maxRecDepth 100000
set_option maxHeartbeats 8000000
set_option exponentiation.threshold 5000
namespace G58
open PySem PySem.Spec PyProof.Rows L2 Mi Ra Tx
/-! ### one turn of the law -/
theorem eq_self (neg : Bool) (a : Rat) (S : Sto) : fEq neg (eQ a) (eQ a) S = .ok (.bl (if neg = true then false else true)) S := by
  rw [eq_q]
  simp
theorem is_tt (S : Sto) : fIs true (.bl true) (.bl true) S = .ok (.bl false) S := rfl
theorem e_floor {x : Rat} {S : Sto} (hx : Ok x) : F_floor_of [eQ x] S = .ok (.int (x.num.fdiv x.den)) S := by
  have d := fun S => div_sm (S := S) (i := x.num) (den_p x) (sm_d hx)
  simp [F_floor_of, d_floor_of, runF, startP, endOf, dRet, dRetN, dIf, dIfS, dB, dBin, dUn, dV, dC, sE, asB, dSeq, dSet, dPar, dPar3, dAsg, dExpr, dAnd, dOr, dNot, bAnd, bOr, bNot, dTru, dCB, dCons, dNil, dTup, dLst, dChain, dPass, fCmpI, fIsN, gTp, gsCons, gsNil, gNm, mkTup, dSl, dPart, dNoPart, lim, iLt, iLe, iGt, iGe, e_chkf hx, ix_q0, ix_q1, d]
theorem is_int (i : Int) (S : Sto) : F_is_integer [.int i] S = .ok (.bl true) S := rfl
theorem e_six {q : Rat} {S : Sto} (h : Ok q) : F_fraction [.int (q.num * 6), .int ((q.den : Int) * 6)] S = .ok (eQ q) S := by
  have dp := den_p q
  have z : ∀ S, fEq false (.int ((q.den : Int) * 6)) (.int 0) S = .ok (.bl false) S := fun S => by rw [w_eq, beq_eq_false_iff_ne.mpr (by omega)]; rfl
  have lim6 : ((q.den : Int) * 6).natAbs ≤ 10 ^ 601 := by
    have := mul_abs (a := (q.den : Int)) (b := 6) h.bd.dn (Nat.le_refl _)
    exact Nat.le_trans this (by decide +kernel)
  have m := fun S => e_made (a := q.num * 6) (b := (q.den : Int) * 6) (S := S) (by omega) lim6
  have e : Rat.divInt (q.num * 6) ((q.den : Int) * 6) = q := by rw [Rat.divInt_mul_right (by decide), self]
  rw [e] at m
  have m : ∀ S, F_made [.int (q.num * 6), .int ((q.den : Int) * 6)] S = .ok (eQ q) S := fun S => by rw [m, rQ_ok h]
  generalize (q.den : Int) * 6 = d at *
  generalize q.num * 6 = n at *
  simp [F_fraction, d_fraction, runF, startP, endOf, dRet, dRetN, dIf, dIfS, dB, dBin, dUn, dV, dC, sE, asB, dSeq, dSet, dPar, dPar3, dAsg, dExpr, dAnd, dOr, dNot, bAnd, bOr, bNot, dTru, dCB, dCons, dNil, dTup, dLst, dChain, dPass, fCmpI, fIsN, gTp, gsCons, gsNil, gNm, mkTup, dSl, dPart, dNoPart, lim, iLt, iLe, iGt, iGe, is_int, z, m, truP]
theorem rd_form {f : Fo} (h : FoD f) (S : Sto) : F_read_exact [tS f.txt] S = .ok (eQ (Fo.q f)) S ∧ F_law_told_text_L [tS f.txt] S = .ok (eQ (Fo.q f)) S ∧ Ok (Fo.q f) := by
  have len := Fo.len h.ok
  have a := h.lA
  have b := h.lB
  have e := h.lX
  have as := Fo.as h.ok
  have p := pr_form h.ok
  have vb := val_lt (h.ok.A.app (show AD f.b from by
    unfold Fo.b
    cases q : f.B with
    | none => exact fun c hc => nomatch hc
    | some b => exact (h.ok.B b q).1))
  have M60 : val (f.A ++ f.b) ≤ 10 ^ 60 := Nat.le_trans (Nat.le_of_lt vb) (Nat.pow_le_pow_right (by decide) (by rw [List.length_append]; omega))
  have okq : Ok (Fo.q f) := v_ok (by rw [sgn_abs]; exact M60) (by omega)
  refine ⟨?_, ?_, okq⟩
  · rw [e_read as (by omega), p]
    exact rQ_ok okq
  · rw [l_told as (by omega), p]
    rfl
theorem rd_two {f : Fo} (h : FoD f) (S : Sto) : F_read_exact [tS f.two.txt] S = .ok (eQ (Fo.q f)) S := by
  have len := Fo.len (Fo.two_ok h.ok)
  have a := h.lA
  have b := h.lB
  have la : f.two.A.length = f.A.length + 2 := rfl
  have lb : f.two.b = f.b := rfl
  rw [la, lb] at len
  rw [e_read (Fo.as (Fo.two_ok h.ok)) (by omega), Fo.two_pr h.ok, ← e_read (Fo.as h.ok) (by have := Fo.len h.ok; omega)]
  exact (rd_form h S).1
/-- a text otherwise: what the law reads, what the package reads -/
theorem rd_bad {l : List Nat} (as : AS l) (hl : l.length ≤ 30) (S : Sto) :
    (∃ q, Ok q ∧ F_law_told_text_L [tS l] S = .ok (eQ q) S ∧ F_read_exact [tS l] S = .ok (eQ q) S) ∨ ∃ i : Nat, F_law_told_text_L [tS l] S = .ok (.int (i : Int)) S ∧ F_read_exact [tS l] S = .exc "BadText" [("place", .int (i : Int))] S := by
  have r := e_read as (by omega) S
  have t := l_told as (by omega) S
  cases q : pr l with
  | bad i =>
    rw [q] at r t
    exact Or.inr ⟨i, t, r⟩
  | ok i e =>
    rw [q] at r t
    obtain ⟨b1, b2⟩ := pr_bd q
    have ok : Ok ((i : Rat) * pw 10 e) := v_ok (Nat.le_trans (Nat.le_of_lt b1) (Nat.pow_le_pow_right (by decide) (by omega))) (by omega)
    refine Or.inl ⟨_, ok, t, ?_⟩
    rw [r]
    exact rQ_ok ok
def lwB : EnP → Sto → SR := (dSeq (dSet 3 (dCB F_law_text_L (dCons (dV 1) (dNil)))) (dSeq (dSet 4 (dCB F_law_told_text_L (dCons (dV 3) (dNil)))) (dSeq (dSet 5 (dCB F_read_exact (dCons (dV 3) (dNil)))) (dSeq (dIfS (bOr (dB (dBin (fEq true) (dV 5) (dV 4))) (bOr (dB (dBin (fIs true) (dCB F_is_fraction (dCons (dV 5) (dNil))) (dC (.bl true)))) (dB (dBin (fEq true) (dCB F_law_summed_L (dCons (dV 3) (dNil))) (dV 5))))) (dRet (dC (.bl false))) (dPass)) (dSeq (dIfS (dB (dBin (fEq true) (dCB F_read_exact (dCons (dIf (dB (dBin (fEq true) (dSl false (dV 3) (dNoPart) (dPart (dC (.int 1)))) (dC (.str ("-" : Str))))) (dBin (fAdd false) (dC (.str ("00" : Str))) (dV 3)) (dBin (fAdd false) (dC (.str ("-00" : Str))) (dSl false (dV 3) (dPart (dC (.int 1))) (dNoPart)))) (dNil))) (dV 5))) (dRet (dC (.bl false))) (dPass)) (dSeq (dIfS (bOr (dB (dBin (fEq true) (dCB F_floor_of (dCons (dV 5) (dNil))) (dBin fDiv (dBin fIx (dV 5) (dC (.int 0))) (dBin fIx (dV 5) (dC (.int 1)))))) (dB (dBin (fEq true) (dCB F_fraction (dCons (dBin (fMul false) (dBin fIx (dV 5) (dC (.int 0))) (dC (.int 6))) (dCons (dBin (fMul false) (dBin fIx (dV 5) (dC (.int 1))) (dC (.int 6))) (dNil)))) (dV 5)))) (dRet (dC (.bl false))) (dPass)) (dSeq (dSet 6 (dCB F_law_spoiled_L (dCons (dV 1) (dCons (dV 3) (dNil))))) (dSeq (dSet 4 (dCB F_law_told_text_L (dCons (dV 6) (dNil)))) (dSeq (dSet 7 (fun ρ S => G_law_place_L (fun S => (dCB F_read_exact (dCons (dV 6) (dNil))) ρ S) S)) (dIfS (dTru (dCB fIsi (dCons (dV 4) (dCons (dC (.ty "tuple")) (dNil))))) (dIfS (bOr (dB (dBin (fIsN true) (dV 7) (dC .non))) (dB (dBin (fEq true) (dCB F_read_exact (dCons (dV 6) (dNil))) (dV 4)))) (dRet (dC (.bl false))) (dPass)) (dIfS (dB (dBin (fEq true) (dV 7) (dV 4))) (dRet (dC (.bl false))) (dPass))))))))))))
theorem lw_step {b : Int} {S : Sto} {a0 a2 a3 a4 a5 a6 a7 a8 a9 a10 : Option PV} (hk : Hk b S) (hb : b ≤ 700000000) :
    ∃ S' b3 b4 b5 b6 b7, lwB [a0, some (.ref 0), a2, a3, a4, a5, a6, a7, a8, a9, a10] S = .nx [a0, some (.ref 0), a2, b3, b4, b5, b6, b7, a8, a9, a10] S' ∧ Hk (b + 2000) S' := by
  obtain ⟨f, S1, e1, hf, k1⟩ := l_text hk (by omega)
  have len := Fo.len hf.ok
  have hA := hf.lA
  have hB := hf.lB
  have as := Fo.as hf.ok
  obtain ⟨l', S2, e2, as2, ll, k2⟩ := l_spoiled k1 (by omega) as (Fo.nil hf.ok) (by omega)
  have rd := fun S => (rd_form hf S).1
  have td := fun S => (rd_form hf S).2.1
  have ok := (rd_form hf S).2.2
  have sm := l_summed hf.ok (by omega) (by omega) (by have := hf.lX; omega)
  have frac := fun S => e_fraction (S := S) ok
  have fl := fun S => e_floor (S := S) ok
  have six := fun S => e_six (S := S) ok
  have dv := fun S => div_sm (S := S) (i := (Fo.q f).num) (den_p (Fo.q f)) (sm_d ok)
  have m1 := fun S => mul_sm (i := (Fo.q f).num) (j := 6) (S := S) (sm_n ok) (by decide +kernel)
  have m2 := fun S => mul_sm (i := ((Fo.q f).den : Int)) (j := 6) (S := S) (sm_d ok) (by decide +kernel)
  have r2 := rd_two hf
  have ts0 := fun S => tsl_to (b := 1) (l := f.txt) (S := S) (by omega)
  have ts0 : ∀ S, fSl false (tS f.txt) none (some 1) S = .ok (tS (f.txt.take 1)) S := ts0
  have te0 : ∀ S, fEq true (tS (f.txt.take 1)) (.str ("-" : Str)) S = .ok (.bl (!f.neg)) S := fun S => by
    have q := teq true (as.take 1) (as1 (c := 45) (by decide)) S
    have e := one_at (l := f.txt) (i := 0) 45
    rw [List.drop_zero] at e
    rw [e, Fo.neg_at hf.ok] at q
    rw [l_m]
    exact q
  have tf : ∀ S, fSl false (tS f.txt) (some 1) none S = .ok (tS (f.txt.drop 1)) S := fun S => tsl_from (a := 1) (l := f.txt) (S := S) (by have := List.length_pos_iff.mpr (Fo.nil hf.ok); omega) (by omega)
  have x2 : (.str ("00" : Str) : PV) = tS [48, 48] := by kernel_rfl
  have x3 : (.str ("-00" : Str) : PV) = tS [45, 48, 48] := by kernel_rfl
  have c2 : ∀ S, fAdd false (.str ("00" : Str)) (tS f.txt) S = .ok (tS ([48, 48] ++ f.txt)) S := fun S => by rw [x2]; exact tcat (by simp; omega)
  have c3 : ∀ S, fAdd false (.str ("-00" : Str)) (tS (f.txt.drop 1)) S = .ok (tS ([45, 48, 48] ++ f.txt.drop 1)) S := fun S => by rw [x3]; exact tcat (by rw [List.length_drop]; simp; omega)
  have e2x := Fo.two_txt (f := f)
  have rb := rd_bad as2 (by omega)
  have es := fun neg S => eq_self neg (Fo.q f) S
  have len' : f.txt.length ≤ 30 := by omega
  clear len
  generalize ef : f.txt = T at *
  generalize eq_ : Fo.q f = q at *
  generalize et : f.two.txt = T2 at *
  have s0 : (dSet 3 (dCB F_law_text_L (dCons (dV 1) (dNil)))) [a0, some (.ref 0), a2, a3, a4, a5, a6, a7, a8, a9, a10] S = .nx [a0, some (.ref 0), a2, some (tS T), a4, a5, a6, a7, a8, a9, a10] S1 := by simp [runF, startP, endOf, dRet, dRetN, dIf, dIfS, dB, dBin, dUn, dV, dC, sE, asB, dSeq, dSet, dPar, dPar3, dAsg, dExpr, dAnd, dOr, dNot, bAnd, bOr, bNot, dTru, dCB, dCons, dNil, dTup, dLst, dChain, dPass, fCmpI, fIsN, gTp, gsCons, gsNil, gNm, mkTup, dSl, dPart, dNoPart, lim, iLt, iLe, iGt, iGe, e1]
  have s1 : (dSet 4 (dCB F_law_told_text_L (dCons (dV 3) (dNil)))) [a0, some (.ref 0), a2, some (tS T), a4, a5, a6, a7, a8, a9, a10] S1 = .nx [a0, some (.ref 0), a2, some (tS T), some (eQ q), a5, a6, a7, a8, a9, a10] S1 := by simp [runF, startP, endOf, dRet, dRetN, dIf, dIfS, dB, dBin, dUn, dV, dC, sE, asB, dSeq, dSet, dPar, dPar3, dAsg, dExpr, dAnd, dOr, dNot, bAnd, bOr, bNot, dTru, dCB, dCons, dNil, dTup, dLst, dChain, dPass, fCmpI, fIsN, gTp, gsCons, gsNil, gNm, mkTup, dSl, dPart, dNoPart, lim, iLt, iLe, iGt, iGe, td]
  have s2 : (dSet 5 (dCB F_read_exact (dCons (dV 3) (dNil)))) [a0, some (.ref 0), a2, some (tS T), some (eQ q), a5, a6, a7, a8, a9, a10] S1 = .nx [a0, some (.ref 0), a2, some (tS T), some (eQ q), some (eQ q), a6, a7, a8, a9, a10] S1 := by simp [runF, startP, endOf, dRet, dRetN, dIf, dIfS, dB, dBin, dUn, dV, dC, sE, asB, dSeq, dSet, dPar, dPar3, dAsg, dExpr, dAnd, dOr, dNot, bAnd, bOr, bNot, dTru, dCB, dCons, dNil, dTup, dLst, dChain, dPass, fCmpI, fIsN, gTp, gsCons, gsNil, gNm, mkTup, dSl, dPart, dNoPart, lim, iLt, iLe, iGt, iGe, rd]
  have s3 : (dIfS (bOr (dB (dBin (fEq true) (dV 5) (dV 4))) (bOr (dB (dBin (fIs true) (dCB F_is_fraction (dCons (dV 5) (dNil))) (dC (.bl true)))) (dB (dBin (fEq true) (dCB F_law_summed_L (dCons (dV 3) (dNil))) (dV 5))))) (dRet (dC (.bl false))) (dPass)) [a0, some (.ref 0), a2, some (tS T), some (eQ q), some (eQ q), a6, a7, a8, a9, a10] S1 = .nx [a0, some (.ref 0), a2, some (tS T), some (eQ q), some (eQ q), a6, a7, a8, a9, a10] S1 := by simp [runF, startP, endOf, dRet, dRetN, dIf, dIfS, dB, dBin, dUn, dV, dC, sE, asB, dSeq, dSet, dPar, dPar3, dAsg, dExpr, dAnd, dOr, dNot, bAnd, bOr, bNot, dTru, dCB, dCons, dNil, dTup, dLst, dChain, dPass, fCmpI, fIsN, gTp, gsCons, gsNil, gNm, mkTup, dSl, dPart, dNoPart, lim, iLt, iLe, iGt, iGe, es, frac, is_tt, sm]
  have s4 : (dIfS (dB (dBin (fEq true) (dCB F_read_exact (dCons (dIf (dB (dBin (fEq true) (dSl false (dV 3) (dNoPart) (dPart (dC (.int 1)))) (dC (.str ("-" : Str))))) (dBin (fAdd false) (dC (.str ("00" : Str))) (dV 3)) (dBin (fAdd false) (dC (.str ("-00" : Str))) (dSl false (dV 3) (dPart (dC (.int 1))) (dNoPart)))) (dNil))) (dV 5))) (dRet (dC (.bl false))) (dPass)) [a0, some (.ref 0), a2, some (tS T), some (eQ q), some (eQ q), a6, a7, a8, a9, a10] S1 = .nx [a0, some (.ref 0), a2, some (tS T), some (eQ q), some (eQ q), a6, a7, a8, a9, a10] S1 := by
    cases hn : f.neg with
    | false =>
      rw [hn, if_neg Bool.false_ne_true] at e2x
      rw [hn] at te0
      rw [← e2x] at c2
      simp [runF, startP, endOf, dRet, dRetN, dIf, dIfS, dB, dBin, dUn, dV, dC, sE, asB, dSeq, dSet, dPar, dPar3, dAsg, dExpr, dAnd, dOr, dNot, bAnd, bOr, bNot, dTru, dCB, dCons, dNil, dTup, dLst, dChain, dPass, fCmpI, fIsN, gTp, gsCons, gsNil, gNm, mkTup, dSl, dPart, dNoPart, lim, iLt, iLe, iGt, iGe, ts0, te0, c2, r2, es]
    | true =>
      rw [hn, if_pos rfl] at e2x
      rw [hn] at te0
      rw [← e2x] at c3
      generalize T.drop 1 = T1 at *
      simp [runF, startP, endOf, dRet, dRetN, dIf, dIfS, dB, dBin, dUn, dV, dC, sE, asB, dSeq, dSet, dPar, dPar3, dAsg, dExpr, dAnd, dOr, dNot, bAnd, bOr, bNot, dTru, dCB, dCons, dNil, dTup, dLst, dChain, dPass, fCmpI, fIsN, gTp, gsCons, gsNil, gNm, mkTup, dSl, dPart, dNoPart, lim, iLt, iLe, iGt, iGe, ts0, te0, tf, c3, r2, es]
  have s5 : (dIfS (bOr (dB (dBin (fEq true) (dCB F_floor_of (dCons (dV 5) (dNil))) (dBin fDiv (dBin fIx (dV 5) (dC (.int 0))) (dBin fIx (dV 5) (dC (.int 1)))))) (dB (dBin (fEq true) (dCB F_fraction (dCons (dBin (fMul false) (dBin fIx (dV 5) (dC (.int 0))) (dC (.int 6))) (dCons (dBin (fMul false) (dBin fIx (dV 5) (dC (.int 1))) (dC (.int 6))) (dNil)))) (dV 5)))) (dRet (dC (.bl false))) (dPass)) [a0, some (.ref 0), a2, some (tS T), some (eQ q), some (eQ q), a6, a7, a8, a9, a10] S1 = .nx [a0, some (.ref 0), a2, some (tS T), some (eQ q), some (eQ q), a6, a7, a8, a9, a10] S1 := by
    have we : ∀ S, fEq true (.int (q.num.fdiv q.den)) (.int (q.num.fdiv q.den)) S = .ok (.bl false) S := fun S => by rw [w_eq]; simp
    simp [runF, startP, endOf, dRet, dRetN, dIf, dIfS, dB, dBin, dUn, dV, dC, sE, asB, dSeq, dSet, dPar, dPar3, dAsg, dExpr, dAnd, dOr, dNot, bAnd, bOr, bNot, dTru, dCB, dCons, dNil, dTup, dLst, dChain, dPass, fCmpI, fIsN, gTp, gsCons, gsNil, gNm, mkTup, dSl, dPart, dNoPart, lim, iLt, iLe, iGt, iGe, fl, ix_q0, ix_q1, dv, we, m1, m2, six, es]
  have s6 : (dSet 6 (dCB F_law_spoiled_L (dCons (dV 1) (dCons (dV 3) (dNil))))) [a0, some (.ref 0), a2, some (tS T), some (eQ q), some (eQ q), a6, a7, a8, a9, a10] S1 = .nx [a0, some (.ref 0), a2, some (tS T), some (eQ q), some (eQ q), some (tS l'), a7, a8, a9, a10] S2 := by simp [runF, startP, endOf, dRet, dRetN, dIf, dIfS, dB, dBin, dUn, dV, dC, sE, asB, dSeq, dSet, dPar, dPar3, dAsg, dExpr, dAnd, dOr, dNot, bAnd, bOr, bNot, dTru, dCB, dCons, dNil, dTup, dLst, dChain, dPass, fCmpI, fIsN, gTp, gsCons, gsNil, gNm, mkTup, dSl, dPart, dNoPart, lim, iLt, iLe, iGt, iGe, e2]
  have dd : lwB = dSeq (dSet 3 (dCB F_law_text_L (dCons (dV 1) (dNil)))) (dSeq (dSet 4 (dCB F_law_told_text_L (dCons (dV 3) (dNil)))) (dSeq (dSet 5 (dCB F_read_exact (dCons (dV 3) (dNil)))) (dSeq (dIfS (bOr (dB (dBin (fEq true) (dV 5) (dV 4))) (bOr (dB (dBin (fIs true) (dCB F_is_fraction (dCons (dV 5) (dNil))) (dC (.bl true)))) (dB (dBin (fEq true) (dCB F_law_summed_L (dCons (dV 3) (dNil))) (dV 5))))) (dRet (dC (.bl false))) (dPass)) (dSeq (dIfS (dB (dBin (fEq true) (dCB F_read_exact (dCons (dIf (dB (dBin (fEq true) (dSl false (dV 3) (dNoPart) (dPart (dC (.int 1)))) (dC (.str ("-" : Str))))) (dBin (fAdd false) (dC (.str ("00" : Str))) (dV 3)) (dBin (fAdd false) (dC (.str ("-00" : Str))) (dSl false (dV 3) (dPart (dC (.int 1))) (dNoPart)))) (dNil))) (dV 5))) (dRet (dC (.bl false))) (dPass)) (dSeq (dIfS (bOr (dB (dBin (fEq true) (dCB F_floor_of (dCons (dV 5) (dNil))) (dBin fDiv (dBin fIx (dV 5) (dC (.int 0))) (dBin fIx (dV 5) (dC (.int 1)))))) (dB (dBin (fEq true) (dCB F_fraction (dCons (dBin (fMul false) (dBin fIx (dV 5) (dC (.int 0))) (dC (.int 6))) (dCons (dBin (fMul false) (dBin fIx (dV 5) (dC (.int 1))) (dC (.int 6))) (dNil)))) (dV 5)))) (dRet (dC (.bl false))) (dPass)) (dSeq (dSet 6 (dCB F_law_spoiled_L (dCons (dV 1) (dCons (dV 3) (dNil))))) (dSeq (dSet 4 (dCB F_law_told_text_L (dCons (dV 6) (dNil)))) (dSeq (dSet 7 (fun ρ S => G_law_place_L (fun S => (dCB F_read_exact (dCons (dV 6) (dNil))) ρ S) S)) (dIfS (dTru (dCB fIsi (dCons (dV 4) (dCons (dC (.ty "tuple")) (dNil))))) (dIfS (bOr (dB (dBin (fIsN true) (dV 7) (dC .non))) (dB (dBin (fEq true) (dCB F_read_exact (dCons (dV 6) (dNil))) (dV 4)))) (dRet (dC (.bl false))) (dPass)) (dIfS (dB (dBin (fEq true) (dV 7) (dV 4))) (dRet (dC (.bl false))) (dPass))))))))))) := rfl
  rcases rb S2 with ⟨p, okp, tp, rp⟩ | ⟨i, ti, ri⟩
  · have s7 : (dSet 4 (dCB F_law_told_text_L (dCons (dV 6) (dNil)))) [a0, some (.ref 0), a2, some (tS T), some (eQ q), some (eQ q), some (tS l'), a7, a8, a9, a10] S2 = .nx [a0, some (.ref 0), a2, some (tS T), some (eQ p), some (eQ q), some (tS l'), a7, a8, a9, a10] S2 := by simp [runF, startP, endOf, dRet, dRetN, dIf, dIfS, dB, dBin, dUn, dV, dC, sE, asB, dSeq, dSet, dPar, dPar3, dAsg, dExpr, dAnd, dOr, dNot, bAnd, bOr, bNot, dTru, dCB, dCons, dNil, dTup, dLst, dChain, dPass, fCmpI, fIsN, gTp, gsCons, gsNil, gNm, mkTup, dSl, dPart, dNoPart, lim, iLt, iLe, iGt, iGe, tp]
    have w := w_none (K := fun S => (dCB F_read_exact (dCons (dV 6) (dNil))) [a0, some (.ref 0), a2, some (tS T), some (eQ p), some (eQ q), some (tS l'), a7, a8, a9, a10] S) (S := S2) (v := eQ p) (by simp [runF, startP, endOf, dRet, dRetN, dIf, dIfS, dB, dBin, dUn, dV, dC, sE, asB, dSeq, dSet, dPar, dPar3, dAsg, dExpr, dAnd, dOr, dNot, bAnd, bOr, bNot, dTru, dCB, dCons, dNil, dTup, dLst, dChain, dPass, fCmpI, fIsN, gTp, gsCons, gsNil, gNm, mkTup, dSl, dPart, dNoPart, lim, iLt, iLe, iGt, iGe, rp])
    have s8 : (dSet 7 (fun ρ S => G_law_place_L (fun S => (dCB F_read_exact (dCons (dV 6) (dNil))) ρ S) S)) [a0, some (.ref 0), a2, some (tS T), some (eQ p), some (eQ q), some (tS l'), a7, a8, a9, a10] S2 = .nx [a0, some (.ref 0), a2, some (tS T), some (eQ p), some (eQ q), some (tS l'), some .non, a8, a9, a10] S2 := by
      simp only [dSet, dAsg, sE, w]
      rfl
    have it : ∀ S, fIsi [eQ p, .ty "tuple"] S = .ok (.bl true) S := fun S => rfl
    have ep := fun neg S => eq_self neg p S
    have s9 : (dIfS (dTru (dCB fIsi (dCons (dV 4) (dCons (dC (.ty "tuple")) (dNil))))) (dIfS (bOr (dB (dBin (fIsN true) (dV 7) (dC .non))) (dB (dBin (fEq true) (dCB F_read_exact (dCons (dV 6) (dNil))) (dV 4)))) (dRet (dC (.bl false))) (dPass)) (dIfS (dB (dBin (fEq true) (dV 7) (dV 4))) (dRet (dC (.bl false))) (dPass))) [a0, some (.ref 0), a2, some (tS T), some (eQ p), some (eQ q), some (tS l'), some .non, a8, a9, a10] S2 = .nx [a0, some (.ref 0), a2, some (tS T), some (eQ p), some (eQ q), some (tS l'), some .non, a8, a9, a10] S2 := by
      simp [runF, startP, endOf, dRet, dRetN, dIf, dIfS, dB, dBin, dUn, dV, dC, sE, asB, dSeq, dSet, dPar, dPar3, dAsg, dExpr, dAnd, dOr, dNot, bAnd, bOr, bNot, dTru, dCB, dCons, dNil, dTup, dLst, dChain, dPass, fCmpI, fIsN, gTp, gsCons, gsNil, gNm, mkTup, dSl, dPart, dNoPart, lim, iLt, iLe, iGt, iGe, it, truP, isNon, rp, ep]
    refine ⟨S2, some (tS T), some (eQ p), some (eQ q), some (tS l'), some .non, ?_, k2.mono (by omega)⟩
    rw [dd]
    simp only [dSeq, s0, s1, s2, s3, s4, s5, s6, s7, s8, s9]
  · have s7 : (dSet 4 (dCB F_law_told_text_L (dCons (dV 6) (dNil)))) [a0, some (.ref 0), a2, some (tS T), some (eQ q), some (eQ q), some (tS l'), a7, a8, a9, a10] S2 = .nx [a0, some (.ref 0), a2, some (tS T), some (.int (i : Int)), some (eQ q), some (tS l'), a7, a8, a9, a10] S2 := by simp [runF, startP, endOf, dRet, dRetN, dIf, dIfS, dB, dBin, dUn, dV, dC, sE, asB, dSeq, dSet, dPar, dPar3, dAsg, dExpr, dAnd, dOr, dNot, bAnd, bOr, bNot, dTru, dCB, dCons, dNil, dTup, dLst, dChain, dPass, fCmpI, fIsN, gTp, gsCons, gsNil, gNm, mkTup, dSl, dPart, dNoPart, lim, iLt, iLe, iGt, iGe, ti]
    have w := w_bad (K := fun S => (dCB F_read_exact (dCons (dV 6) (dNil))) [a0, some (.ref 0), a2, some (tS T), some (.int (i : Int)), some (eQ q), some (tS l'), a7, a8, a9, a10] S) (S := S2) (i := (i : Int)) (by simp [runF, startP, endOf, dRet, dRetN, dIf, dIfS, dB, dBin, dUn, dV, dC, sE, asB, dSeq, dSet, dPar, dPar3, dAsg, dExpr, dAnd, dOr, dNot, bAnd, bOr, bNot, dTru, dCB, dCons, dNil, dTup, dLst, dChain, dPass, fCmpI, fIsN, gTp, gsCons, gsNil, gNm, mkTup, dSl, dPart, dNoPart, lim, iLt, iLe, iGt, iGe, ri])
    have s8 : (dSet 7 (fun ρ S => G_law_place_L (fun S => (dCB F_read_exact (dCons (dV 6) (dNil))) ρ S) S)) [a0, some (.ref 0), a2, some (tS T), some (.int (i : Int)), some (eQ q), some (tS l'), a7, a8, a9, a10] S2 = .nx [a0, some (.ref 0), a2, some (tS T), some (.int (i : Int)), some (eQ q), some (tS l'), some (.int (i : Int)), a8, a9, a10] S2 := by
      simp only [dSet, dAsg, sE, w]
      rfl
    have it : ∀ S, fIsi [.int (i : Int), .ty "tuple"] S = .ok (.bl false) S := fun S => rfl
    have ep : ∀ S, fEq true (.int (i : Int)) (.int (i : Int)) S = .ok (.bl false) S := fun S => by rw [w_eq]; simp
    have s9 : (dIfS (dTru (dCB fIsi (dCons (dV 4) (dCons (dC (.ty "tuple")) (dNil))))) (dIfS (bOr (dB (dBin (fIsN true) (dV 7) (dC .non))) (dB (dBin (fEq true) (dCB F_read_exact (dCons (dV 6) (dNil))) (dV 4)))) (dRet (dC (.bl false))) (dPass)) (dIfS (dB (dBin (fEq true) (dV 7) (dV 4))) (dRet (dC (.bl false))) (dPass))) [a0, some (.ref 0), a2, some (tS T), some (.int (i : Int)), some (eQ q), some (tS l'), some (.int (i : Int)), a8, a9, a10] S2 = .nx [a0, some (.ref 0), a2, some (tS T), some (.int (i : Int)), some (eQ q), some (tS l'), some (.int (i : Int)), a8, a9, a10] S2 := by
      simp [runF, startP, endOf, dRet, dRetN, dIf, dIfS, dB, dBin, dUn, dV, dC, sE, asB, dSeq, dSet, dPar, dPar3, dAsg, dExpr, dAnd, dOr, dNot, bAnd, bOr, bNot, dTru, dCB, dCons, dNil, dTup, dLst, dChain, dPass, fCmpI, fIsN, gTp, gsCons, gsNil, gNm, mkTup, dSl, dPart, dNoPart, lim, iLt, iLe, iGt, iGe, it, truP, ep]
    refine ⟨S2, some (tS T), some (.int (i : Int)), some (eQ q), some (tS l'), some (.int (i : Int)), ?_, k2.mono (by omega)⟩
    rw [dd]
    simp only [dSeq, s0, s1, s2, s3, s4, s5, s6, s7, s8, s9]
end G58
end
section
set_option Elab.async false
set_option linter.all false
set_option maxRecDepth 100000
set_option maxHeartbeats 8000000
set_option exponentiation.threshold 5000
namespace G58
open PySem PySem.Spec PyProof.Rows L2 Mi Ra Tx
/-! ### what is no text of figures -/
theorem rd_odd {v : PV} (h : ∀ S, fIsi [v, .ty "str"] S = .ok (.bl false) S) (S : Sto) : F_read_exact [v] S = .exc "BadText" [("place", .int (-1))] S := by
  simp [F_read_exact, d_read_exact, F_check_text, d_check_text, runF, startP, endOf, dRet, dRetN, dIf, dIfS, dB, dBin, dUn, dV, dC, sE, asB, dSeq, dSet, dPar, dPar3, dAsg, dExpr, dAnd, dOr, dNot, bAnd, bOr, bNot, dTru, dCB, dCons, dNil, dTup, dLst, dChain, dPass, fCmpI, fIsN, gTp, gsCons, gsNil, gNm, mkTup, dSl, dPart, dNoPart, lim, iLt, iLe, iGt, iGe, h, truP, dRaiseF, c_NO_PLACE]
theorem rd_long {l : List Nat} (h : 300 < l.length) (h2 : l.length ≤ 1000) (S : Sto) : F_read_exact [tS l] S = .exc "BadText" [("place", .int 300)] S := by
  have ln := fun S => tlen (l := l) (S := S) h2
  have i : ∀ S, fIsi [tS l, .ty "str"] S = .ok (.bl true) S := fun S => rfl
  have c : (300 : Int) < (l.length : Int) := by omega
  simp [F_read_exact, d_read_exact, F_check_text, d_check_text, runF, startP, endOf, dRet, dRetN, dIf, dIfS, dB, dBin, dUn, dV, dC, sE, asB, dSeq, dSet, dPar, dPar3, dAsg, dExpr, dAnd, dOr, dNot, bAnd, bOr, bNot, dTru, dCB, dCons, dNil, dTup, dLst, dChain, dPass, fCmpI, fIsN, gTp, gsCons, gsNil, gNm, mkTup, dSl, dPart, dNoPart, lim, iLt, iLe, iGt, iGe, i, ln, truP, dRaiseF, c_MOST_TEXT, c]
theorem rd_great {n e : Nat} (h : 170 ≤ n) (h2 : n ≤ 290) (h3 : 135 ≤ e) (h4 : e ≤ 140) (S : Sto) : F_read_exact [tS (List.replicate n 49 ++ [101] ++ dg3 e)] S = .exc "NoFraction" [] S := by
  have ok := gr_ok (n := n) (e := e) (by omega) h4
  have len : (gr n e).txt.length = n + 4 := by rw [gr_txt]; simp [dg3]
  rw [← gr_txt, e_read (Fo.as ok) (by omega), gr_pr (by omega) h4]
  have b := gr_big (n := n) (e := e) h h3
  show rQ _ S = _
  unfold rQ
  rw [if_neg (fun q => by have := q.1; omega)]
theorem rd_three {n : Nat} (h : 141 ≤ n) (h2 : n < 1000) (S : Sto) : F_read_exact [tS ([51, 101] ++ dg3 n)] S = .exc "BadText" [("place", .int 2)] S := by
  have a : AS ([51, 101] ++ dg3 n) := AS.app (fun c hc => by
    simp only [List.mem_cons, List.not_mem_nil, or_false] at hc
    omega) (dg3_ad h2).as
  rw [e_read a (by simp [dg3]), th_pr h h2]
  rfl
end G58
end
section
set_option Elab.async false
set_option linter.all false
set_option maxRecDepth 100000
set_option maxHeartbeats 8000000
set_option exponentiation.threshold 5000
namespace G58
open PySem PySem.Spec PyProof.Rows L2 Mi Ra Tx
abbrev q1 : PV := .tup [.int (-15), .int 1]
abbrev q2 : PV := .tup [.int 1, .int 8]
abbrev q3 : PV := .tup [.int 7, .int 100]
theorem c_1 (S : Sto) : F_read_exact [.str ("-1.50e1" : Str)] S = .ok q1 S := by kernel_rfl
theorem c_2 (S : Sto) : F_read_exact [.str ("0.125" : Str)] S = .ok q2 S := by kernel_rfl
theorem c_3 (S : Sto) : F_read_exact [.str ("7e-2" : Str)] S = .ok q3 S := by kernel_rfl
theorem c_is (S : Sto) : F_law_is_L [.nl [q1, q2, q3], .nl [q1, q2, q3]] S = .ok (.bl true) S := by kernel_rfl
end G58
end
section
set_option Elab.async false
set_option linter.all false
set_option maxRecDepth 100000
set_option maxHeartbeats 8000000
set_option exponentiation.threshold 5000
namespace G58
open PySem PySem.Spec PyProof.Rows L2 Mi Ra Tx
/-! ### the law -/
/-- a draw leaves all but the hand -/
theorem e_drawK {b k : Int} {S : Sto} (h : Hk b S) (hk : 0 < k) (hk2 : k ≤ 1000000000000000000000000000000) (hb : b ≤ 1000000000) : ∃ d S', F_law_draw_L [.ref 0, .int k] S = .ok (.int d) S' ∧ 0 ≤ d ∧ d < k ∧ Hk (b + 1) S' ∧ ∀ n, 1 ≤ n → S'[n]? = S[n]? := by
  obtain ⟨cs, i, v, s, c, e, q⟩ := h
  have hS : 0 < S.length := (List.getElem?_eq_some_iff.mp e).1
  have ot : ∀ a b c d e n, 1 ≤ n → (hT S a b c d e)[n]? = S[n]? := fun a b c d e n hn => by
    unfold hT
    rw [List.getElem?_set_ne (by omega)]
  have e' := e
  rw [show F_law_draw_L [.ref 0, .int k] S = F_law_draw_L [.ref 0, .int k] (hT S (cellsP cs) (.int i) (.int v) (.int s) (.int c)) from by rw [← hT_self e']]
  obtain ⟨x2, i', v', s', hA, q'⟩ := draw_A (k := k) hS q
  have at_ : ∀ {i v s c : Int} {b' : Int}, HB cs i v s c b' → Hk b' (hT S (cellsP cs) (.int i) (.int v) (.int s) (.int c)) := fun {i v s c b'} q => ⟨cs, i, v, s, c, hT_get hS, q⟩
  have step : F_law_draw_L [.ref 0, .int k] (hT S (cellsP cs) (.int i) (.int v) (.int s) (.int c)) = endOf (match dA [some (.ref 0), some (.int k), none, none, none] (hT S (cellsP cs) (.int i) (.int v) (.int s) (.int c)) with
    | .nx ρ' S' => (match dBs ρ' S' with | .nx ρ' S' => dCs ρ' S' | r => r)
    | r => r) := rfl
  rw [step, hA]
  simp only
  rcases draw_B (x2 := x2) hS hk hk2 q' with ⟨_, d, v2, hB, d0, d1, q2⟩ | ⟨_, hB⟩
  · rw [hB]
    exact ⟨d, _, rfl, d0, d1, (at_ q2).mono (by omega), ot _ _ _ _ _⟩
  · rw [hB]
    obtain ⟨d, hC, d0, d1, q3⟩ := draw_C (x2 := x2) hS hk hb q'
    simp only
    rw [hC]
    exact ⟨d, _, rfl, d0, d1, at_ q3, ot _ _ _ _ _⟩
theorem eq_dat {x y : PV} {d e : PyData} {neg : Bool} {S : Sto} (h1 : toDS x S = some d) (h2 : toDS y S = some e) (h3 : SeqAt.shaped d = true) (h4 : SeqAt.shaped e = true) : fEq neg x y S = .ok (.bl (if neg = true then !PyData.eqv d e else PyData.eqv d e)) S := by
  unfold fEq
  rw [h1, h2]
  simp [h3, h4]
theorem w_bad2 {K : Sto → Res PV} {S S' : Sto} {i : Int} (h : K S = .exc "BadText" [("place", .int i)] S') : G_law_place_L K S = .ok (.int i) S' := by
  have c : catT "BadText" = some true := by kernel_rfl
  have i0 : isT "BadText" (.glb "BadText") = some true := by kernel_rfl
  have a : dAct 0 K [some .lam, none] S = .exc "BadText" [("place", .int i)] S' := h
  have lk : List.lookup ("place" : Str) [(("place" : Str), PV.int i)] = some (.int i) := by simp [List.lookup]
  simp [G_law_place_L, lamF, d_law_place_L, dTry, runF, startP, endOf, dRet, dRetN, dIf, dIfS, dB, dBin, dUn, dV, dC, sE, asB, dSeq, dSet, dPar, dPar3, dAsg, dExpr, dAnd, dOr, dNot, bAnd, bOr, bNot, dTru, dCB, dCons, dNil, dTup, dLst, dChain, dPass, fCmpI, fIsN, gTp, gsCons, gsNil, gNm, mkTup, dSl, dPart, dNoPart, lim, iLt, iLe, iGt, iGe, a, c, tryEnd, errEnv, fIsE, isF, i0, dErrFld, lk, truP, cleanR, flatP]
theorem Hk.set {b : Int} {S : Sto} {n : Nat} {x : SO} (h : Hk b S) (hn : 1 ≤ n) : Hk b (S.set n x) := by
  obtain ⟨cs, i, v, s, c, e, k⟩ := h
  exact ⟨cs, i, v, s, c, by rw [List.getElem?_set_ne (by omega)]; exact e, k⟩
theorem ap_step {ρ : EnP} {S S' : Sto} {n : Nat} {g : EnP → Sto → Res PV} {xs xs' : List PV} {y : PV} (h5 : ρ[5]? = some (some (.ref n))) (h1 : S[n]? = some (SO.lst xs)) (hg : g ρ S = .ok y S') (h2 : S'[n]? = some (SO.lst xs')) (hl : xs'.length < 1000) :
    dExpr (dApp (dV 5) (dCons g dNil)) ρ S = .nx ρ (S'.set n (SO.lst (xs' ++ [y]))) := by
  have hl' : xs'.length < lim := by unfold lim; omega
  simp [dExpr, dApp, dV, h5, h1, dCons, dNil, hg, sE, fApp, h2, hl']
theorem lw_loop {a0 a2 a8 a9 a10 : Option PV} : ∀ (ys : List PV) (b : Int) (S : Sto) (a2 a3 a4 a5 a6 a7 : Option PV), Hk b S → b + 2000 * ys.length ≤ 600000000 → ∃ S' b2 b3 b4 b5 b6 b7, forP (gNm 2) lwB ys [a0, some (.ref 0), a2, a3, a4, a5, a6, a7, a8, a9, a10] S = .nx [a0, some (.ref 0), b2, b3, b4, b5, b6, b7, a8, a9, a10] S' ∧ Hk (b + 2000 * ys.length) S'
  | [], b, S, a2, a3, a4, a5, a6, a7, hk, _ => ⟨S, a2, a3, a4, a5, a6, a7, rfl, by simpa using hk⟩
  | y :: ys, b, S, a2, a3, a4, a5, a6, a7, hk, hb => by
    rw [List.length_cons] at hb
    obtain ⟨S1, c3, c4, c5, c6, c7, e1, k1⟩ := lw_step (a0 := a0) (a2 := some y) (a3 := a3) (a4 := a4) (a5 := a5) (a6 := a6) (a7 := a7) (a8 := a8) (a9 := a9) (a10 := a10) hk (by omega)
    obtain ⟨S', b2, b3, b4, b5, b6, b7, ih, k2⟩ := lw_loop (a0 := a0) (a2 := a2) (a8 := a8) (a9 := a9) (a10 := a10) ys (b + 2000) S1 (some y) c3 c4 c5 c6 c7 k1 (by omega)
    refine ⟨S', b2, b3, b4, b5, b6, b7, ?_, k2.mono (by rw [List.length_cons]; omega)⟩
    rw [forP]
    have g : gNm 2 y [a0, some (.ref 0), a2, a3, a4, a5, a6, a7, a8, a9, a10] S = .ok [a0, some (.ref 0), some y, a3, a4, a5, a6, a7, a8, a9, a10] S := rfl
    rw [g]
    simp only [sE, e1]
    exact ih
def odds : List PV := [.non, .int 5, .tup [], .nl [.str "1"], .nd [] []]
theorem odd_no {y : PV} (h : y ∈ odds) (S : Sto) : fIsi [y, .ty "str"] S = .ok (.bl false) S := by
  simp only [odds, List.mem_cons, List.not_mem_nil, or_false] at h
  rcases h with rfl | rfl | rfl | rfl | rfl <;> rfl
def endT : EnP → Sto → SR := (dSeq (dSet 8 (dCB F_law_any_L (dCons (dV 1) (dCons (dLst false (dCons (dC .non) (dCons (dC (.int 5)) (dCons (dTup (dNil)) (dCons (dLst false (dCons (dC (.str ("1" : Str))) (dNil))) (dCons (dDict0) (dNil))))))) (dNil))))) (dSeq (dSet 9 (dBin fMulS (dC (.str ("1" : Str))) (dBin (fAdd false) (dC (.int 301)) (dCB F_law_draw_L (dCons (dV 1) (dCons (dC (.int 9)) (dNil))))))) (dSeq (dSet 5 (dLst true (dCons (fun ρ S => G_law_place_L (fun S => (dCB F_read_exact (dCons (dV 8) (dNil))) ρ S) S) (dNil)))) (dSeq (dExpr (dApp (dV 5) (dCons (fun ρ S => G_law_place_L (fun S => (dCB F_read_exact (dCons (dV 9) (dNil))) ρ S) S) (dNil)))) (dSeq (dSet 10 (dBin (fAdd false) (dBin (fAdd false) (dBin fMulS (dC (.str ("1" : Str))) (dBin (fAdd false) (dC (.int 170)) (dCB F_law_draw_L (dCons (dV 1) (dCons (dC (.int 60)) (dNil)))))) (dC (.str ("e" : Str)))) (dCB fStrI (dCons (dBin (fAdd false) (dC (.int 135)) (dCB F_law_draw_L (dCons (dV 1) (dCons (dC (.int 6)) (dNil))))) (dNil))))) (dSeq (dExpr (dApp (dV 5) (dCons (fun ρ S => G_law_place_L (fun S => (dCB F_read_exact (dCons (dV 10) (dNil))) ρ S) S) (dNil)))) (dSeq (dExpr (dApp (dV 5) (dCons (fun ρ S => G_law_place_L (fun S => (dCB F_read_exact (dCons (dBin (fAdd false) (dC (.str ("3e" : Str))) (dCB fStrI (dCons (dBin (fAdd false) (dC (.int 141)) (dCB F_law_draw_L (dCons (dV 1) (dCons (dC (.int 800)) (dNil))))) (dNil)))) (dNil))) ρ S) S) (dNil)))) (dRet (dBin (fEq false) (dV 5) (dLst false (dCons (dUn fNeg (dC (.int 1))) (dCons (dC (.int 300)) (dCons (dC (.str ("fraction" : Str))) (dCons (dC (.int 2)) (dNil)))))))))))))))
theorem law_end {b : Int} {S : Sto} {a0 a2 a3 a4 a5 a6 a7 a8 a9 a10 : Option PV} (hk : Hk b S) (hb : b ≤ 700000000) : ∃ S', endT [a0, some (.ref 0), a2, a3, a4, a5, a6, a7, a8, a9, a10] S = .rt (.bl true) S' := by
  obtain ⟨o, ho, S1, e1, k1⟩ := e_any (xs := odds) hk (by omega) (by decide) (by decide)
  have no := odd_no ho
  obtain ⟨d, S2, e2, a2', b2', k2, p2⟩ := e_drawK (k := 9) k1 (by decide) (by decide) (by omega)
  have mo := mul_ones (k := 301 + d) (by omega) (by omega)
  have ll : (List.replicate (301 + d).toNat 49).length = (301 + d).toNat := List.length_replicate
  have rl := rd_long (l := List.replicate (301 + d).toNat 49) (by rw [ll]; omega) (by rw [ll]; omega)
  generalize List.replicate (301 + d).toNat 49 = L at *
  have d0 : ∀ ρ S, dDict0 ρ S = .ok (.nd [] []) S := fun ρ S => rfl
  have s1 : (dSet 8 (dCB F_law_any_L (dCons (dV 1) (dCons (dLst false (dCons (dC .non) (dCons (dC (.int 5)) (dCons (dTup (dNil)) (dCons (dLst false (dCons (dC (.str ("1" : Str))) (dNil))) (dCons (dDict0) (dNil))))))) (dNil))))) [a0, some (.ref 0), a2, a3, a4, a5, a6, a7, a8, a9, a10] S = .nx [a0, some (.ref 0), a2, a3, a4, a5, a6, a7, some o, a9, a10] S1 := by
    unfold odds at e1
    simp [runF, startP, endOf, dRet, dRetN, dIf, dIfS, dB, dBin, dUn, dV, dC, sE, asB, dSeq, dSet, dPar, dPar3, dAsg, dExpr, dAnd, dOr, dNot, bAnd, bOr, bNot, dTru, dCB, dCons, dNil, dTup, dLst, dChain, dPass, fCmpI, fIsN, gTp, gsCons, gsNil, gNm, mkTup, dSl, dPart, dNoPart, lim, iLt, iLe, iGt, iGe, mkLst, d0, e1]
  have s2 : (dSet 9 (dBin fMulS (dC (.str ("1" : Str))) (dBin (fAdd false) (dC (.int 301)) (dCB F_law_draw_L (dCons (dV 1) (dCons (dC (.int 9)) (dNil))))))) [a0, some (.ref 0), a2, a3, a4, a5, a6, a7, some o, a9, a10] S1 = .nx [a0, some (.ref 0), a2, a3, a4, a5, a6, a7, some o, some (tS L), a10] S2 := by
    simp [runF, startP, endOf, dRet, dRetN, dIf, dIfS, dB, dBin, dUn, dV, dC, sE, asB, dSeq, dSet, dPar, dPar3, dAsg, dExpr, dAnd, dOr, dNot, bAnd, bOr, bNot, dTru, dCB, dCons, dNil, dTup, dLst, dChain, dPass, fCmpI, fIsN, gTp, gsCons, gsNil, gNm, mkTup, dSl, dPart, dNoPart, lim, iLt, iLe, iGt, iGe, e2, w_add, mo]
  obtain ⟨n, hn⟩ : ∃ n, n = S2.length := ⟨_, rfl⟩
  have n1 : 1 ≤ n := by
    obtain ⟨cs, i, v, s, c, e, k⟩ := k2
    have := (List.getElem?_eq_some_iff.mp e).1
    omega
  obtain ⟨S3, hS3⟩ : ∃ S3, S3 = S2 ++ [SO.lst [.int (-1)]] := ⟨_, rfl⟩
  have g3 : S3[n]? = some (SO.lst [.int (-1)]) := by rw [hS3, hn]; simp
  have k3 : Hk (b + 1 + 1) S3 := by rw [hS3]; exact k2.more _
  have w1 := w_bad2 (K := fun S => (dCB F_read_exact (dCons (dV 8) (dNil))) [a0, some (.ref 0), a2, a3, a4, a5, a6, a7, some o, some (tS L), a10] S) (S := S2) (S' := S2) (i := -1) (by simp [runF, startP, endOf, dRet, dRetN, dIf, dIfS, dB, dBin, dUn, dV, dC, sE, asB, dSeq, dSet, dPar, dPar3, dAsg, dExpr, dAnd, dOr, dNot, bAnd, bOr, bNot, dTru, dCB, dCons, dNil, dTup, dLst, dChain, dPass, fCmpI, fIsN, gTp, gsCons, gsNil, gNm, mkTup, dSl, dPart, dNoPart, lim, iLt, iLe, iGt, iGe, rd_odd no])
  have s3 : (dSet 5 (dLst true (dCons (fun ρ S => G_law_place_L (fun S => (dCB F_read_exact (dCons (dV 8) (dNil))) ρ S) S) (dNil)))) [a0, some (.ref 0), a2, a3, a4, a5, a6, a7, some o, some (tS L), a10] S2 = .nx [a0, some (.ref 0), a2, a3, a4, some (.ref n), a6, a7, some o, some (tS L), a10] S3 := by
    rw [hS3, hn]
    simp only [dSet, dAsg, dLst, dCons, dNil, sE, w1, Res.bind_ok]
    rfl
  -- the long one
  have w2 := w_bad2 (K := fun S => (dCB F_read_exact (dCons (dV 9) (dNil))) [a0, some (.ref 0), a2, a3, a4, some (.ref n), a6, a7, some o, some (tS L), a10] S) (S := S3) (S' := S3) (i := 300) (by simp [runF, startP, endOf, dRet, dRetN, dIf, dIfS, dB, dBin, dUn, dV, dC, sE, asB, dSeq, dSet, dPar, dPar3, dAsg, dExpr, dAnd, dOr, dNot, bAnd, bOr, bNot, dTru, dCB, dCons, dNil, dTup, dLst, dChain, dPass, fCmpI, fIsN, gTp, gsCons, gsNil, gNm, mkTup, dSl, dPart, dNoPart, lim, iLt, iLe, iGt, iGe, rl])
  have s4 : (dExpr (dApp (dV 5) (dCons (fun ρ S => G_law_place_L (fun S => (dCB F_read_exact (dCons (dV 9) (dNil))) ρ S) S) (dNil)))) [a0, some (.ref 0), a2, a3, a4, some (.ref n), a6, a7, some o, some (tS L), a10] S3 = .nx [a0, some (.ref 0), a2, a3, a4, some (.ref n), a6, a7, some o, some (tS L), a10] (S3.set n (SO.lst [.int (-1), .int 300])) := ap_step rfl g3 w2 g3 (by simp)
  have g4 : (S3.set n (SO.lst [.int (-1), .int 300]))[n]? = some (SO.lst [.int (-1), .int 300]) := by
    rw [List.getElem?_set_self (List.getElem?_eq_some_iff.mp g3).1]
  have k4 : Hk (b + 1 + 1) (S3.set n (SO.lst [.int (-1), .int 300])) := k3.set n1
  generalize S3.set n (SO.lst [.int (-1), .int 300]) = S4 at *
  -- the great one
  obtain ⟨d5, S5, e5, a5', b5', k5, p5⟩ := e_drawK (k := 60) k4 (by decide) (by decide) (by omega)
  obtain ⟨d6, S6, e6, a6', b6', k6, p6⟩ := e_drawK (k := 6) k5 (by decide) (by decide) (by omega)
  obtain ⟨m5, h5⟩ : ∃ m : Nat, 170 + d5 = (m : Int) := ⟨(170 + d5).toNat, by omega⟩
  obtain ⟨m6, h6⟩ : ∃ m : Nat, 135 + d6 = (m : Int) := ⟨(135 + d6).toNat, by omega⟩
  have mo5 := mul_ones (k := (m5 : Int)) (by omega) (by omega)
  rw [Int.toNat_natCast] at mo5
  have st6 := strI3 (n := m6) (by omega) (by omega)
  have gr5 := rd_great (n := m5) (e := m6) (by omega) (by omega) (by omega) (by omega)
  have cl : (List.replicate m5 49).length = m5 := List.length_replicate
  have cl3 : (Tx.dg3 m6).length = 3 := rfl
  have ct1 : ∀ S, fAdd false (tS (List.replicate m5 49)) (.str ("e" : Str)) S = .ok (tS (List.replicate m5 49 ++ [101])) S := fun S => by rw [l_e]; exact tcat (by rw [cl]; simp; omega)
  have ct2 : ∀ S, fAdd false (tS (List.replicate m5 49 ++ [101])) (tS (Tx.dg3 m6)) S = .ok (tS (List.replicate m5 49 ++ [101] ++ Tx.dg3 m6)) S := fun S => tcat (by rw [List.length_append, cl, cl3]; simp; omega)
  have g6 : S6[n]? = some (SO.lst [.int (-1), .int 300]) := by rw [p6 n n1, p5 n n1]; exact g4
  have s5 : ∃ G, (dSet 10 (dBin (fAdd false) (dBin (fAdd false) (dBin fMulS (dC (.str ("1" : Str))) (dBin (fAdd false) (dC (.int 170)) (dCB F_law_draw_L (dCons (dV 1) (dCons (dC (.int 60)) (dNil)))))) (dC (.str ("e" : Str)))) (dCB fStrI (dCons (dBin (fAdd false) (dC (.int 135)) (dCB F_law_draw_L (dCons (dV 1) (dCons (dC (.int 6)) (dNil))))) (dNil))))) [a0, some (.ref 0), a2, a3, a4, some (.ref n), a6, a7, some o, some (tS L), a10] S4 = .nx [a0, some (.ref 0), a2, a3, a4, some (.ref n), a6, a7, some o, some (tS L), some G] S6 ∧ ∀ S, F_read_exact [G] S = .exc "NoFraction" [] S := by
    refine ⟨tS (List.replicate m5 49 ++ [101] ++ Tx.dg3 m6), ?_, gr5⟩
    generalize tS (List.replicate m5 49 ++ [101] ++ Tx.dg3 m6) = v3 at *
    generalize tS (List.replicate m5 49 ++ [101]) = v2 at *
    generalize tS (List.replicate m5 49) = v1 at *
    generalize tS (Tx.dg3 m6) = v0 at *
    simp [runF, startP, endOf, dRet, dRetN, dIf, dIfS, dB, dBin, dUn, dV, dC, sE, asB, dSeq, dSet, dPar, dPar3, dAsg, dExpr, dAnd, dOr, dNot, bAnd, bOr, bNot, dTru, dCB, dCons, dNil, dTup, dLst, dChain, dPass, fCmpI, fIsN, gTp, gsCons, gsNil, gNm, mkTup, dSl, dPart, dNoPart, lim, iLt, iLe, iGt, iGe, e5, e6, w_add, h5, h6, mo5, st6, ct1, ct2]
  obtain ⟨G, s5, rG⟩ := s5
  have w6 := w_frac (K := fun S => (dCB F_read_exact (dCons (dV 10) (dNil))) [a0, some (.ref 0), a2, a3, a4, some (.ref n), a6, a7, some o, some (tS L), some G] S) (S := S6) (by simp [runF, startP, endOf, dRet, dRetN, dIf, dIfS, dB, dBin, dUn, dV, dC, sE, asB, dSeq, dSet, dPar, dPar3, dAsg, dExpr, dAnd, dOr, dNot, bAnd, bOr, bNot, dTru, dCB, dCons, dNil, dTup, dLst, dChain, dPass, fCmpI, fIsN, gTp, gsCons, gsNil, gNm, mkTup, dSl, dPart, dNoPart, lim, iLt, iLe, iGt, iGe, rG])
  have s6 : (dExpr (dApp (dV 5) (dCons (fun ρ S => G_law_place_L (fun S => (dCB F_read_exact (dCons (dV 10) (dNil))) ρ S) S) (dNil)))) [a0, some (.ref 0), a2, a3, a4, some (.ref n), a6, a7, some o, some (tS L), some G] S6 = .nx [a0, some (.ref 0), a2, a3, a4, some (.ref n), a6, a7, some o, some (tS L), some G] (S6.set n (SO.lst [.int (-1), .int 300, .str "fraction"])) := ap_step rfl g6 w6 g6 (by simp)
  have g7 : (S6.set n (SO.lst [.int (-1), .int 300, .str "fraction"]))[n]? = some (SO.lst [.int (-1), .int 300, .str "fraction"]) := by
    rw [List.getElem?_set_self (List.getElem?_eq_some_iff.mp g6).1]
  have k7 : Hk (b + 1 + 1 + 1 + 1) (S6.set n (SO.lst [.int (-1), .int 300, .str "fraction"])) := k6.set n1
  generalize S6.set n (SO.lst [.int (-1), .int 300, .str "fraction"]) = S7 at *
  -- the great power
  obtain ⟨d8, S8, e8, a8', b8', k8, p8⟩ := e_drawK (k := 800) k7 (by decide) (by decide) (by omega)
  obtain ⟨m8, h8⟩ : ∃ m : Nat, 141 + d8 = (m : Int) := ⟨(141 + d8).toNat, by omega⟩
  have st8 := strI3 (n := m8) (by omega) (by omega)
  have r8 := rd_three (n := m8) (by omega) (by omega)
  have x8 : (.str ("3e" : Str) : PV) = tS [51, 101] := by kernel_rfl
  have ct8 : ∀ S, fAdd false (.str ("3e" : Str)) (tS (Tx.dg3 m8)) S = .ok (tS ([51, 101] ++ Tx.dg3 m8)) S := fun S => by rw [x8]; exact tcat (by simp [Tx.dg3])
  have w8 := w_bad2 (K := fun S => (dCB F_read_exact (dCons (dBin (fAdd false) (dC (.str ("3e" : Str))) (dCB fStrI (dCons (dBin (fAdd false) (dC (.int 141)) (dCB F_law_draw_L (dCons (dV 1) (dCons (dC (.int 800)) (dNil))))) (dNil)))) (dNil))) [a0, some (.ref 0), a2, a3, a4, some (.ref n), a6, a7, some o, some (tS L), some G] S) (S := S7) (S' := S8) (i := 2) (by
    generalize tS ([51, 101] ++ Tx.dg3 m8) = v1 at *
    generalize tS (Tx.dg3 m8) = v0 at *
    simp [runF, startP, endOf, dRet, dRetN, dIf, dIfS, dB, dBin, dUn, dV, dC, sE, asB, dSeq, dSet, dPar, dPar3, dAsg, dExpr, dAnd, dOr, dNot, bAnd, bOr, bNot, dTru, dCB, dCons, dNil, dTup, dLst, dChain, dPass, fCmpI, fIsN, gTp, gsCons, gsNil, gNm, mkTup, dSl, dPart, dNoPart, lim, iLt, iLe, iGt, iGe, e8, w_add, h8, st8, ct8, r8])
  have g8 : S8[n]? = some (SO.lst [.int (-1), .int 300, .str "fraction"]) := by rw [p8 n n1]; exact g7
  have s7 : (dExpr (dApp (dV 5) (dCons (fun ρ S => G_law_place_L (fun S => (dCB F_read_exact (dCons (dBin (fAdd false) (dC (.str ("3e" : Str))) (dCB fStrI (dCons (dBin (fAdd false) (dC (.int 141)) (dCB F_law_draw_L (dCons (dV 1) (dCons (dC (.int 800)) (dNil))))) (dNil)))) (dNil))) ρ S) S) (dNil)))) [a0, some (.ref 0), a2, a3, a4, some (.ref n), a6, a7, some o, some (tS L), some G] S7 = .nx [a0, some (.ref 0), a2, a3, a4, some (.ref n), a6, a7, some o, some (tS L), some G] (S8.set n (SO.lst [.int (-1), .int 300, .str "fraction", .int 2])) := ap_step rfl g7 w8 g8 (by simp)
  have g9 : (S8.set n (SO.lst [.int (-1), .int 300, .str "fraction", .int 2]))[n]? = some (SO.lst [.int (-1), .int 300, .str "fraction", .int 2]) := by
    rw [List.getElem?_set_self (List.getElem?_eq_some_iff.mp g8).1]
  generalize S8.set n (SO.lst [.int (-1), .int 300, .str "fraction", .int 2]) = S9 at *
  have eq : fEq false (.ref n) (.nl [.int (-1), .int 300, .str "fraction", .int 2]) S9 = .ok (.bl true) S9 := by
    have d1 : toDS (.ref n) S9 = some (.list [.int (-1), .int 300, .str "fraction", .int 2]) := by
      simp only [toDS, g9]
      rfl
    rw [eq_dat (d := .list [.int (-1), .int 300, .str "fraction", .int 2]) (e := .list [.int (-1), .int 300, .str "fraction", .int 2]) d1 rfl (by decide +kernel) (by decide +kernel)]
    have : PyData.eqv (.list [.int (-1), .int 300, .str "fraction", .int 2]) (.list [.int (-1), .int 300, .str "fraction", .int 2]) = true := by decide +kernel
    rw [this]
    rfl
  have s8 : (dRet (dBin (fEq false) (dV 5) (dLst false (dCons (dUn fNeg (dC (.int 1))) (dCons (dC (.int 300)) (dCons (dC (.str ("fraction" : Str))) (dCons (dC (.int 2)) (dNil)))))))) [a0, some (.ref 0), a2, a3, a4, some (.ref n), a6, a7, some o, some (tS L), some G] S9 = .rt (.bl true) S9 := by
    simp [runF, startP, endOf, dRet, dRetN, dIf, dIfS, dB, dBin, dUn, dV, dC, sE, asB, dSeq, dSet, dPar, dPar3, dAsg, dExpr, dAnd, dOr, dNot, bAnd, bOr, bNot, dTru, dCB, dCons, dNil, dTup, dLst, dChain, dPass, fCmpI, fIsN, gTp, gsCons, gsNil, gNm, mkTup, dSl, dPart, dNoPart, lim, iLt, iLe, iGt, iGe, mkLst, w_neg, eq]
  refine ⟨S9, ?_⟩
  have ds : endT = dSeq (dSet 8 (dCB F_law_any_L (dCons (dV 1) (dCons (dLst false (dCons (dC .non) (dCons (dC (.int 5)) (dCons (dTup (dNil)) (dCons (dLst false (dCons (dC (.str ("1" : Str))) (dNil))) (dCons (dDict0) (dNil))))))) (dNil))))) (dSeq (dSet 9 (dBin fMulS (dC (.str ("1" : Str))) (dBin (fAdd false) (dC (.int 301)) (dCB F_law_draw_L (dCons (dV 1) (dCons (dC (.int 9)) (dNil))))))) (dSeq (dSet 5 (dLst true (dCons (fun ρ S => G_law_place_L (fun S => (dCB F_read_exact (dCons (dV 8) (dNil))) ρ S) S) (dNil)))) (dSeq (dExpr (dApp (dV 5) (dCons (fun ρ S => G_law_place_L (fun S => (dCB F_read_exact (dCons (dV 9) (dNil))) ρ S) S) (dNil)))) (dSeq (dSet 10 (dBin (fAdd false) (dBin (fAdd false) (dBin fMulS (dC (.str ("1" : Str))) (dBin (fAdd false) (dC (.int 170)) (dCB F_law_draw_L (dCons (dV 1) (dCons (dC (.int 60)) (dNil)))))) (dC (.str ("e" : Str)))) (dCB fStrI (dCons (dBin (fAdd false) (dC (.int 135)) (dCB F_law_draw_L (dCons (dV 1) (dCons (dC (.int 6)) (dNil))))) (dNil))))) (dSeq (dExpr (dApp (dV 5) (dCons (fun ρ S => G_law_place_L (fun S => (dCB F_read_exact (dCons (dV 10) (dNil))) ρ S) S) (dNil)))) (dSeq (dExpr (dApp (dV 5) (dCons (fun ρ S => G_law_place_L (fun S => (dCB F_read_exact (dCons (dBin (fAdd false) (dC (.str ("3e" : Str))) (dCB fStrI (dCons (dBin (fAdd false) (dC (.int 141)) (dCB F_law_draw_L (dCons (dV 1) (dCons (dC (.int 800)) (dNil))))) (dNil)))) (dNil))) ρ S) S) (dNil)))) (dRet (dBin (fEq false) (dV 5) (dLst false (dCons (dUn fNeg (dC (.int 1))) (dCons (dC (.int 300)) (dCons (dC (.str ("fraction" : Str))) (dCons (dC (.int 2)) (dNil)))))))))))))) := rfl
  rw [ds]
  simp only [dSeq, s1, s2, s3, s4, s5, s6, s7, s8]
theorem law_true : ∀ ns : List Int, ns.length ≤ 63 → (∀ z ∈ ns, PySem.Builtin.Int.intBits z ≤ 1048576) → ∃ S1, F_law [.fl (ns.map .int)] [] = .ok (.bl true) S1 := fun ns hl hbt => by
  obtain ⟨S0, e0, k0⟩ := e_hand hl hbt
  obtain ⟨S1, b2, b3, b4, b5, b6, b7, lp, k1⟩ := lw_loop (a0 := some (.fl (ns.map .int))) (a2 := none) (a8 := none) (a9 := none) (a10 := none) (Mi.upTo 0 8) 0 S0 none none none none none none k0 (by decide)
  obtain ⟨S2, le⟩ := law_end (a0 := some (.fl (ns.map .int))) (a2 := b2) (a3 := b3) (a4 := b4) (a5 := b5) (a6 := b6) (a7 := b7) (a8 := none) (a9 := none) (a10 := none) k1 (by decide)
  refine ⟨S2, ?_⟩
  have f1 : ∀ D, dFor (iRange (dCons (dC (.int 8)) (dNil))) (gNm 2) lwB D S0 = forP (gNm 2) lwB (Mi.upTo 0 8) D S0 := fun D => rfl
  have dd : d_law = dSeq (dSet 1 (dCB F_law_hand_L (dCons (dV 0) (dNil)))) (dSeq (dIfS (bNot (dTru (dCB F_law_is_L (dCons (dLst false (dCons (dCB F_read_exact (dCons (dC (.str ("-1.50e1" : Str))) (dNil))) (dCons (dCB F_read_exact (dCons (dC (.str ("0.125" : Str))) (dNil))) (dCons (dCB F_read_exact (dCons (dC (.str ("7e-2" : Str))) (dNil))) (dNil))))) (dCons (dLst false (dCons (dTup (dCons (dUn fNeg (dC (.int 15))) (dCons (dC (.int 1)) (dNil)))) (dCons (dTup (dCons (dC (.int 1)) (dCons (dC (.int 8)) (dNil)))) (dCons (dTup (dCons (dC (.int 7)) (dCons (dC (.int 100)) (dNil)))) (dNil))))) (dNil)))))) (dRet (dC (.bl false))) (dPass)) (dSeq (dFor (iRange (dCons (dC (.int 8)) (dNil))) (gNm 2) lwB) endT)) := rfl
  have s0 : (dSet 1 (dCB F_law_hand_L (dCons (dV 0) (dNil)))) [some (.fl (ns.map .int)), none, none, none, none, none, none, none, none, none, none] [] = .nx [some (.fl (ns.map .int)), some (.ref 0), none, none, none, none, none, none, none, none, none] S0 := by simp [runF, startP, endOf, dRet, dRetN, dIf, dIfS, dB, dBin, dUn, dV, dC, sE, asB, dSeq, dSet, dPar, dPar3, dAsg, dExpr, dAnd, dOr, dNot, bAnd, bOr, bNot, dTru, dCB, dCons, dNil, dTup, dLst, dChain, dPass, fCmpI, fIsN, gTp, gsCons, gsNil, gNm, mkTup, dSl, dPart, dNoPart, lim, iLt, iLe, iGt, iGe, e0]
  have s1 : (dIfS (bNot (dTru (dCB F_law_is_L (dCons (dLst false (dCons (dCB F_read_exact (dCons (dC (.str ("-1.50e1" : Str))) (dNil))) (dCons (dCB F_read_exact (dCons (dC (.str ("0.125" : Str))) (dNil))) (dCons (dCB F_read_exact (dCons (dC (.str ("7e-2" : Str))) (dNil))) (dNil))))) (dCons (dLst false (dCons (dTup (dCons (dUn fNeg (dC (.int 15))) (dCons (dC (.int 1)) (dNil)))) (dCons (dTup (dCons (dC (.int 1)) (dCons (dC (.int 8)) (dNil)))) (dCons (dTup (dCons (dC (.int 7)) (dCons (dC (.int 100)) (dNil)))) (dNil))))) (dNil)))))) (dRet (dC (.bl false))) (dPass)) [some (.fl (ns.map .int)), some (.ref 0), none, none, none, none, none, none, none, none, none] S0 = .nx [some (.fl (ns.map .int)), some (.ref 0), none, none, none, none, none, none, none, none, none] S0 := by simp [runF, startP, endOf, dRet, dRetN, dIf, dIfS, dB, dBin, dUn, dV, dC, sE, asB, dSeq, dSet, dPar, dPar3, dAsg, dExpr, dAnd, dOr, dNot, bAnd, bOr, bNot, dTru, dCB, dCons, dNil, dTup, dLst, dChain, dPass, fCmpI, fIsN, gTp, gsCons, gsNil, gNm, mkTup, dSl, dPart, dNoPart, lim, iLt, iLe, iGt, iGe, mkLst, c_1, c_2, c_3, w_neg, c_is, truP]
  show endOf (d_law [some (.fl (ns.map .int)), none, none, none, none, none, none, none, none, none, none] []) = _
  rw [dd]
  simp only [dSeq, s0, s1, f1, lp, le]
  rfl
end G58
end
section
set_option Elab.async false
set_option linter.all false
set_option maxRecDepth 100000
open PySem PySem.W PyProof.Rows Mi
set_option maxHeartbeats 0
open_top hd58 for PySem.Challenge.rw_roundwarrant_k58_whole_texts_of_figures
abbrev G58.cs : List Lt := ([⟨327, 323, "law.<locals>.<lambda>"⟩] : List Lt)
abbrev G58.eA : List (Str × Addr) := [("RoundError", 24), ("NoFraction", 37), ("Zero", 49), ("BadText", 68)]
theorem G58.top_ok {w : World} {mg : Str → Option Value} {fa : Addr} {h : Heap} {p0 : Program} (KX : (hd58.heap_39 w.params).In h) (G : h.Ns mainGlobals mg) (XX : PySem.W.XL p0 [("FIFTY", PySem.W.WData.int 100000000000000000000000000000000000000000000000000)] mg h) (hT : ∀ c ∈ G58.cs, h.get? c.tab = some T0) (hmg : mg "law" = some (.ref fa))
    (math : ∀ ns : List Int, ns.length ≤ 63 → (∀ z ∈ ns, Builtin.Int.intBits z ≤ 1048576) → ∃ S1, G58.F_law [.fl (ns.map .int)] [] = .ok (.bl true) S1) :
    ∃ (cs : List Lt) (Ff : List PV → Sto → Res PV), (∀ c ∈ cs, h.get? c.tab = some T0) ∧ (∀ c ∈ cs, (hd58.heap_39 w.params).lookup c.tab = none) ∧ (∀ c ∈ cs, PySem.W.CodeHd h c.code c.tab) ∧
      (∀ base : Heap, (hd58.heap_39 w.params).In base → base.Ns mainGlobals mg → (∀ c ∈ cs, LamX.TabB base mg c.code c.tab) → FA ⟨PySem.Challenge.rw_roundwarrant_k58_whole_texts_of_figures.prog, w, (hd58.heap_39 w.params), mg, base, tabOf cs⟩ 23 fa Ff) ∧
      ∀ ns : List Int, ns.length ≤ 63 → (∀ z ∈ ns, Builtin.Int.intBits z ≤ 1048576) → ∃ S1, Ff [.fl (ns.map .int)] [] = .ok (.bl true) S1 := by
  refine ⟨G58.cs, G58.F_law, hT, fun c hc => ?_, fun c hc => ?_, fun base KB GB TB => ?_, math⟩
  · simp only [List.mem_cons, List.not_mem_nil, or_false] at hc
    rcases hc with rfl
    · first | kernel_rfl | rfl
  · simp only [List.mem_cons, List.not_mem_nil, or_false] at hc
    rcases hc with rfl
    · exact PySem.W.codeHd_of_K KX (by first | kernel_rfl | rfl)
  · have B : Bi mg := by
      refine bi_mk KX G ?_
      first | kernel_rfl | rfl
    have ER : ErrAll (hd58.heap_39 w.params) mg G58.eA G58.isP 24 (["BadText"] : List Str) := errs_mk (["BadText"] : List Str) KX G (by first | kernel_rfl | rfl) (by decide +kernel)
    have e_RoundError : EC (hd58.heap_39 w.params) mg "RoundError" := ER.ec ("RoundError", 24) (by simp) (by decide +kernel)
    have e_NoFraction : EC (hd58.heap_39 w.params) mg "NoFraction" := ER.ec ("NoFraction", 37) (by simp) (by decide +kernel)
    have e_Zero : EC (hd58.heap_39 w.params) mg "Zero" := ER.ec ("Zero", 49) (by simp) (by decide +kernel)
    have ox_BadText : L2.OexC (hd58.heap_39 w.params) 68 := by
      refine' oex_mk ?qq9 ?qq10 ?qq11 ?qq12 ?qq13 ?qq14
      (case qq9 => first | k_is | kernel_rfl | rfl | decide +kernel)
      (case qq10 => first | k_is | kernel_rfl | rfl | decide +kernel)
      (case qq11 => first | k_is | kernel_rfl | rfl | decide +kernel)
      (case qq12 => first | k_is | kernel_rfl | rfl | decide +kernel)
      (case qq13 => first | k_is | kernel_rfl | rfl | decide +kernel)
      (case qq14 => first | k_is | kernel_rfl | rfl | decide +kernel)
    have e_BadText : EF1 (hd58.heap_39 w.params) mg "BadText" "place" := by
      refine' ef_mk KX G ?qq1 ox_BadText ?qq2 ?qq3 ?qq4 ?qq5 ?qq6 ⟨?a1, ?a2, ?a3, ?a4, ?a5, ?a6, ?a7⟩ ?b1 ?b2 ?v1 ?v2 ?hb
      (case qq1 => first | k_is | kernel_rfl | rfl)
      (case qq2 => first | k_is | kernel_rfl | rfl)
      (case qq3 => first | k_is | kernel_rfl | rfl)
      (case qq4 => first | k_is | kernel_rfl | rfl)
      (case qq5 => first | k_is | kernel_rfl | rfl)
      (case qq6 => first | k_is | kernel_rfl | rfl)
      (case a1 => first | rfl | decide +kernel)
      (case a2 => first | rfl | decide +kernel)
      (case a3 => first | rfl | decide +kernel)
      (case a4 => first | rfl | decide +kernel)
      (case a5 => first | rfl | decide +kernel)
      (case a6 => first | rfl | decide +kernel)
      (case a7 => first | rfl | decide +kernel)
      (case b1 => first | rfl | decide +kernel)
      (case b2 => first | rfl | decide +kernel)
      (case v1 => first | exact Or.inl rfl | exact Or.inr (Or.inl rfl) | exact Or.inr (Or.inr rfl))
      (case v2 => first | exact Or.inl rfl | exact Or.inr (Or.inl rfl) | exact Or.inr (Or.inr rfl))
      (case hb => intro us hl; match us, hl with | [_, _], _ => rfl)
    have hCR : mg "RoundError" = some (.ref 24) := ER.at_.at_ ("RoundError", 24) (by simp)
    have h_FIFTY : ∃ t, mg "FIFTY" = some (.int G58.c_FIFTY t) := loose_mk XX (by simp)
    have h_MOST_TURNS : ∃ t, mg "MOST_TURNS" = some (.int G58.c_MOST_TURNS t) := by
      refine' int_mk KX G ?qq15
      (case qq15 => k_is)
    have h_FIGURES : ∃ t, mg "FIGURES" = some (.str G58.c_FIGURES t) := by
      refine' str_mk KX G ?qq16
      (case qq16 => k_is)
    have h_POINT : ∃ t, mg "POINT" = some (.str G58.c_POINT t) := by
      refine' str_mk KX G ?qq17
      (case qq17 => k_is)
    have h_POWER : ∃ t, mg "POWER" = some (.str G58.c_POWER t) := by
      refine' str_mk KX G ?qq18
      (case qq18 => k_is)
    have h_MINUS : ∃ t, mg "MINUS" = some (.str G58.c_MINUS t) := by
      refine' str_mk KX G ?qq19
      (case qq19 => k_is)
    have h_MOST_TEXT : ∃ t, mg "MOST_TEXT" = some (.int G58.c_MOST_TEXT t) := by
      refine' int_mk KX G ?qq20
      (case qq20 => k_is)
    have h_MOST_POWER : ∃ t, mg "MOST_POWER" = some (.int G58.c_MOST_POWER t) := by
      refine' int_mk KX G ?qq21
      (case qq21 => k_is)
    have h_NO_PLACE : ∃ t, mg "NO_PLACE" = some (.int G58.c_NO_PLACE t) := by
      refine' int_mk KX G ?qq22
      (case qq22 => k_is)
    have D_is_integer : DefOk ⟨PySem.Challenge.rw_roundwarrant_k58_whole_texts_of_figures.prog, w, (hd58.heap_39 w.params), mg, base, tabOf G58.cs⟩ "is_integer" G58.s_is_integer := by
      refine' def_mk KX G ?qq23 ?qq24 ?qq25 ?qq26
      (case qq23 => k_is)
      (case qq24 => k_is)
      (case qq25 => k_is)
      (case qq26 => k_is)
    have h_is_integer := G58.fc_is_integer (Z := ⟨PySem.Challenge.rw_roundwarrant_k58_whole_texts_of_figures.prog, w, (hd58.heap_39 w.params), mg, base, tabOf G58.cs⟩) B rfl D_is_integer
    have D_too_great : DefOk ⟨PySem.Challenge.rw_roundwarrant_k58_whole_texts_of_figures.prog, w, (hd58.heap_39 w.params), mg, base, tabOf G58.cs⟩ "too_great" G58.s_too_great := by
      refine' def_mk KX G ?qq27 ?qq28 ?qq29 ?qq30
      (case qq27 => k_is)
      (case qq28 => k_is)
      (case qq29 => k_is)
      (case qq30 => k_is)
    have h_too_great := G58.fc_too_great (Z := ⟨PySem.Challenge.rw_roundwarrant_k58_whole_texts_of_figures.prog, w, (hd58.heap_39 w.params), mg, base, tabOf G58.cs⟩) B rfl h_MOST_TURNS h_FIFTY D_too_great
    have D_common_divisor : DefOk ⟨PySem.Challenge.rw_roundwarrant_k58_whole_texts_of_figures.prog, w, (hd58.heap_39 w.params), mg, base, tabOf G58.cs⟩ "common_divisor" G58.s_common_divisor := by
      refine' def_mk KX G ?qq31 ?qq32 ?qq33 ?qq34
      (case qq31 => k_is)
      (case qq32 => k_is)
      (case qq33 => k_is)
      (case qq34 => k_is)
    have h_common_divisor := G58.fc_common_divisor (Z := ⟨PySem.Challenge.rw_roundwarrant_k58_whole_texts_of_figures.prog, w, (hd58.heap_39 w.params), mg, base, tabOf G58.cs⟩) B rfl D_common_divisor
    have D_is_fraction : DefOk ⟨PySem.Challenge.rw_roundwarrant_k58_whole_texts_of_figures.prog, w, (hd58.heap_39 w.params), mg, base, tabOf G58.cs⟩ "is_fraction" G58.s_is_fraction := by
      refine' def_mk KX G ?qq35 ?qq36 ?qq37 ?qq38
      (case qq35 => k_is)
      (case qq36 => k_is)
      (case qq37 => k_is)
      (case qq38 => k_is)
    have h_is_fraction := G58.fc_is_fraction (Z := ⟨PySem.Challenge.rw_roundwarrant_k58_whole_texts_of_figures.prog, w, (hd58.heap_39 w.params), mg, base, tabOf G58.cs⟩) B rfl h_is_integer h_too_great h_common_divisor D_is_fraction
    have D_check_fraction : DefOk ⟨PySem.Challenge.rw_roundwarrant_k58_whole_texts_of_figures.prog, w, (hd58.heap_39 w.params), mg, base, tabOf G58.cs⟩ "check_fraction" G58.s_check_fraction := by
      refine' def_mk KX G ?qq39 ?qq40 ?qq41 ?qq42
      (case qq39 => k_is)
      (case qq40 => k_is)
      (case qq41 => k_is)
      (case qq42 => k_is)
    have h_check_fraction := G58.fc_check_fraction (Z := ⟨PySem.Challenge.rw_roundwarrant_k58_whole_texts_of_figures.prog, w, (hd58.heap_39 w.params), mg, base, tabOf G58.cs⟩) B rfl e_NoFraction h_is_fraction D_check_fraction
    have D_check_two : DefOk ⟨PySem.Challenge.rw_roundwarrant_k58_whole_texts_of_figures.prog, w, (hd58.heap_39 w.params), mg, base, tabOf G58.cs⟩ "check_two" G58.s_check_two := by
      refine' def_mk KX G ?qq43 ?qq44 ?qq45 ?qq46
      (case qq43 => k_is)
      (case qq44 => k_is)
      (case qq45 => k_is)
      (case qq46 => k_is)
    have h_check_two := G58.fc_check_two (Z := ⟨PySem.Challenge.rw_roundwarrant_k58_whole_texts_of_figures.prog, w, (hd58.heap_39 w.params), mg, base, tabOf G58.cs⟩) B rfl h_check_fraction D_check_two
    have D_made : DefOk ⟨PySem.Challenge.rw_roundwarrant_k58_whole_texts_of_figures.prog, w, (hd58.heap_39 w.params), mg, base, tabOf G58.cs⟩ "made" G58.s_made := by
      refine' def_mk KX G ?qq47 ?qq48 ?qq49 ?qq50
      (case qq47 => k_is)
      (case qq48 => k_is)
      (case qq49 => k_is)
      (case qq50 => k_is)
    have h_made := G58.fc_made (Z := ⟨PySem.Challenge.rw_roundwarrant_k58_whole_texts_of_figures.prog, w, (hd58.heap_39 w.params), mg, base, tabOf G58.cs⟩) B rfl e_NoFraction h_common_divisor h_too_great D_made
    have D_fraction : DefOk ⟨PySem.Challenge.rw_roundwarrant_k58_whole_texts_of_figures.prog, w, (hd58.heap_39 w.params), mg, base, tabOf G58.cs⟩ "fraction" G58.s_fraction := by
      refine' def_mk KX G ?qq51 ?qq52 ?qq53 ?qq54
      (case qq51 => k_is)
      (case qq52 => k_is)
      (case qq53 => k_is)
      (case qq54 => k_is)
    have h_fraction := G58.fc_fraction (Z := ⟨PySem.Challenge.rw_roundwarrant_k58_whole_texts_of_figures.prog, w, (hd58.heap_39 w.params), mg, base, tabOf G58.cs⟩) B rfl e_NoFraction h_is_integer h_made D_fraction
    have D_raw_plus : DefOk ⟨PySem.Challenge.rw_roundwarrant_k58_whole_texts_of_figures.prog, w, (hd58.heap_39 w.params), mg, base, tabOf G58.cs⟩ "raw_plus" G58.s_raw_plus := by
      refine' def_mk KX G ?qq55 ?qq56 ?qq57 ?qq58
      (case qq55 => k_is)
      (case qq56 => k_is)
      (case qq57 => k_is)
      (case qq58 => k_is)
    have h_raw_plus := G58.fc_raw_plus (Z := ⟨PySem.Challenge.rw_roundwarrant_k58_whole_texts_of_figures.prog, w, (hd58.heap_39 w.params), mg, base, tabOf G58.cs⟩) B rfl h_made D_raw_plus
    have D_raw_less : DefOk ⟨PySem.Challenge.rw_roundwarrant_k58_whole_texts_of_figures.prog, w, (hd58.heap_39 w.params), mg, base, tabOf G58.cs⟩ "raw_less" G58.s_raw_less := by
      refine' def_mk KX G ?qq59 ?qq60 ?qq61 ?qq62
      (case qq59 => k_is)
      (case qq60 => k_is)
      (case qq61 => k_is)
      (case qq62 => k_is)
    have h_raw_less := G58.fc_raw_less (Z := ⟨PySem.Challenge.rw_roundwarrant_k58_whole_texts_of_figures.prog, w, (hd58.heap_39 w.params), mg, base, tabOf G58.cs⟩) B rfl h_made D_raw_less
    have D_raw_times : DefOk ⟨PySem.Challenge.rw_roundwarrant_k58_whole_texts_of_figures.prog, w, (hd58.heap_39 w.params), mg, base, tabOf G58.cs⟩ "raw_times" G58.s_raw_times := by
      refine' def_mk KX G ?qq63 ?qq64 ?qq65 ?qq66
      (case qq63 => k_is)
      (case qq64 => k_is)
      (case qq65 => k_is)
      (case qq66 => k_is)
    have h_raw_times := G58.fc_raw_times (Z := ⟨PySem.Challenge.rw_roundwarrant_k58_whole_texts_of_figures.prog, w, (hd58.heap_39 w.params), mg, base, tabOf G58.cs⟩) B rfl h_made D_raw_times
    have D_raw_by : DefOk ⟨PySem.Challenge.rw_roundwarrant_k58_whole_texts_of_figures.prog, w, (hd58.heap_39 w.params), mg, base, tabOf G58.cs⟩ "raw_by" G58.s_raw_by := by
      refine' def_mk KX G ?qq67 ?qq68 ?qq69 ?qq70
      (case qq67 => k_is)
      (case qq68 => k_is)
      (case qq69 => k_is)
      (case qq70 => k_is)
    have h_raw_by := G58.fc_raw_by (Z := ⟨PySem.Challenge.rw_roundwarrant_k58_whole_texts_of_figures.prog, w, (hd58.heap_39 w.params), mg, base, tabOf G58.cs⟩) B rfl h_made D_raw_by
    have D_plus : DefOk ⟨PySem.Challenge.rw_roundwarrant_k58_whole_texts_of_figures.prog, w, (hd58.heap_39 w.params), mg, base, tabOf G58.cs⟩ "plus" G58.s_plus := by
      refine' def_mk KX G ?qq71 ?qq72 ?qq73 ?qq74
      (case qq71 => k_is)
      (case qq72 => k_is)
      (case qq73 => k_is)
      (case qq74 => k_is)
    have h_plus := G58.fc_plus (Z := ⟨PySem.Challenge.rw_roundwarrant_k58_whole_texts_of_figures.prog, w, (hd58.heap_39 w.params), mg, base, tabOf G58.cs⟩) B rfl h_check_two h_raw_plus D_plus
    have D_less : DefOk ⟨PySem.Challenge.rw_roundwarrant_k58_whole_texts_of_figures.prog, w, (hd58.heap_39 w.params), mg, base, tabOf G58.cs⟩ "less" G58.s_less := by
      refine' def_mk KX G ?qq75 ?qq76 ?qq77 ?qq78
      (case qq75 => k_is)
      (case qq76 => k_is)
      (case qq77 => k_is)
      (case qq78 => k_is)
    have h_less := G58.fc_less (Z := ⟨PySem.Challenge.rw_roundwarrant_k58_whole_texts_of_figures.prog, w, (hd58.heap_39 w.params), mg, base, tabOf G58.cs⟩) B rfl h_check_two h_raw_less D_less
    have D_times : DefOk ⟨PySem.Challenge.rw_roundwarrant_k58_whole_texts_of_figures.prog, w, (hd58.heap_39 w.params), mg, base, tabOf G58.cs⟩ "times" G58.s_times := by
      refine' def_mk KX G ?qq79 ?qq80 ?qq81 ?qq82
      (case qq79 => k_is)
      (case qq80 => k_is)
      (case qq81 => k_is)
      (case qq82 => k_is)
    have h_times := G58.fc_times (Z := ⟨PySem.Challenge.rw_roundwarrant_k58_whole_texts_of_figures.prog, w, (hd58.heap_39 w.params), mg, base, tabOf G58.cs⟩) B rfl h_check_two h_raw_times D_times
    have D_by : DefOk ⟨PySem.Challenge.rw_roundwarrant_k58_whole_texts_of_figures.prog, w, (hd58.heap_39 w.params), mg, base, tabOf G58.cs⟩ "by" G58.s_by := by
      refine' def_mk KX G ?qq83 ?qq84 ?qq85 ?qq86
      (case qq83 => k_is)
      (case qq84 => k_is)
      (case qq85 => k_is)
      (case qq86 => k_is)
    have h_by := G58.fc_by (Z := ⟨PySem.Challenge.rw_roundwarrant_k58_whole_texts_of_figures.prog, w, (hd58.heap_39 w.params), mg, base, tabOf G58.cs⟩) B rfl e_Zero h_check_two h_raw_by D_by
    have D_floor_of : DefOk ⟨PySem.Challenge.rw_roundwarrant_k58_whole_texts_of_figures.prog, w, (hd58.heap_39 w.params), mg, base, tabOf G58.cs⟩ "floor_of" G58.s_floor_of := by
      refine' def_mk KX G ?qq87 ?qq88 ?qq89 ?qq90
      (case qq87 => k_is)
      (case qq88 => k_is)
      (case qq89 => k_is)
      (case qq90 => k_is)
    have h_floor_of := G58.fc_floor_of (Z := ⟨PySem.Challenge.rw_roundwarrant_k58_whole_texts_of_figures.prog, w, (hd58.heap_39 w.params), mg, base, tabOf G58.cs⟩) B rfl h_check_fraction D_floor_of
    have D_power_of_ten : DefOk ⟨PySem.Challenge.rw_roundwarrant_k58_whole_texts_of_figures.prog, w, (hd58.heap_39 w.params), mg, base, tabOf G58.cs⟩ "power_of_ten" G58.s_power_of_ten := by
      refine' def_mk KX G ?qq91 ?qq92 ?qq93 ?qq94
      (case qq91 => k_is)
      (case qq92 => k_is)
      (case qq93 => k_is)
      (case qq94 => k_is)
    have h_power_of_ten := G58.fc_power_of_ten (Z := ⟨PySem.Challenge.rw_roundwarrant_k58_whole_texts_of_figures.prog, w, (hd58.heap_39 w.params), mg, base, tabOf G58.cs⟩) B rfl D_power_of_ten
    have D_run_of : DefOk ⟨PySem.Challenge.rw_roundwarrant_k58_whole_texts_of_figures.prog, w, (hd58.heap_39 w.params), mg, base, tabOf G58.cs⟩ "run_of" G58.s_run_of := by
      refine' def_mk KX G ?qq95 ?qq96 ?qq97 ?qq98
      (case qq95 => k_is)
      (case qq96 => k_is)
      (case qq97 => k_is)
      (case qq98 => k_is)
    have h_run_of := G58.fc_run_of (Z := ⟨PySem.Challenge.rw_roundwarrant_k58_whole_texts_of_figures.prog, w, (hd58.heap_39 w.params), mg, base, tabOf G58.cs⟩) B rfl h_FIGURES D_run_of
    have D_power_read : DefOk ⟨PySem.Challenge.rw_roundwarrant_k58_whole_texts_of_figures.prog, w, (hd58.heap_39 w.params), mg, base, tabOf G58.cs⟩ "power_read" G58.s_power_read := by
      refine' def_mk KX G ?qq99 ?qq100 ?qq101 ?qq102
      (case qq99 => k_is)
      (case qq100 => k_is)
      (case qq101 => k_is)
      (case qq102 => k_is)
    have h_power_read := G58.fc_power_read (Z := ⟨PySem.Challenge.rw_roundwarrant_k58_whole_texts_of_figures.prog, w, (hd58.heap_39 w.params), mg, base, tabOf G58.cs⟩) B rfl h_MINUS h_MOST_POWER e_BadText h_run_of D_power_read
    have D_raw_read : DefOk ⟨PySem.Challenge.rw_roundwarrant_k58_whole_texts_of_figures.prog, w, (hd58.heap_39 w.params), mg, base, tabOf G58.cs⟩ "raw_read" G58.s_raw_read := by
      refine' def_mk KX G ?qq103 ?qq104 ?qq105 ?qq106
      (case qq103 => k_is)
      (case qq104 => k_is)
      (case qq105 => k_is)
      (case qq106 => k_is)
    have h_raw_read := G58.fc_raw_read (Z := ⟨PySem.Challenge.rw_roundwarrant_k58_whole_texts_of_figures.prog, w, (hd58.heap_39 w.params), mg, base, tabOf G58.cs⟩) B rfl h_MINUS h_POINT h_POWER e_BadText h_run_of h_power_read D_raw_read
    have D_check_text : DefOk ⟨PySem.Challenge.rw_roundwarrant_k58_whole_texts_of_figures.prog, w, (hd58.heap_39 w.params), mg, base, tabOf G58.cs⟩ "check_text" G58.s_check_text := by
      refine' def_mk KX G ?qq107 ?qq108 ?qq109 ?qq110
      (case qq107 => k_is)
      (case qq108 => k_is)
      (case qq109 => k_is)
      (case qq110 => k_is)
    have h_check_text := G58.fc_check_text (Z := ⟨PySem.Challenge.rw_roundwarrant_k58_whole_texts_of_figures.prog, w, (hd58.heap_39 w.params), mg, base, tabOf G58.cs⟩) B rfl h_NO_PLACE h_MOST_TEXT e_BadText D_check_text
    have D_raw_worth : DefOk ⟨PySem.Challenge.rw_roundwarrant_k58_whole_texts_of_figures.prog, w, (hd58.heap_39 w.params), mg, base, tabOf G58.cs⟩ "raw_worth" G58.s_raw_worth := by
      refine' def_mk KX G ?qq111 ?qq112 ?qq113 ?qq114
      (case qq111 => k_is)
      (case qq112 => k_is)
      (case qq113 => k_is)
      (case qq114 => k_is)
    have h_raw_worth := G58.fc_raw_worth (Z := ⟨PySem.Challenge.rw_roundwarrant_k58_whole_texts_of_figures.prog, w, (hd58.heap_39 w.params), mg, base, tabOf G58.cs⟩) B rfl h_power_of_ten h_made D_raw_worth
    have D_read_exact : DefOk ⟨PySem.Challenge.rw_roundwarrant_k58_whole_texts_of_figures.prog, w, (hd58.heap_39 w.params), mg, base, tabOf G58.cs⟩ "read_exact" G58.s_read_exact := by
      refine' def_mk KX G ?qq115 ?qq116 ?qq117 ?qq118
      (case qq115 => k_is)
      (case qq116 => k_is)
      (case qq117 => k_is)
      (case qq118 => k_is)
    have h_read_exact := G58.fc_read_exact (Z := ⟨PySem.Challenge.rw_roundwarrant_k58_whole_texts_of_figures.prog, w, (hd58.heap_39 w.params), mg, base, tabOf G58.cs⟩) B rfl h_check_text h_raw_read h_raw_worth D_read_exact
    have D_law_hand_L : DefOk ⟨PySem.Challenge.rw_roundwarrant_k58_whole_texts_of_figures.prog, w, (hd58.heap_39 w.params), mg, base, tabOf G58.cs⟩ "_law_hand" G58.s_law_hand_L := by
      refine' def_mk KX G ?qq119 ?qq120 ?qq121 ?qq122
      (case qq119 => k_is)
      (case qq120 => k_is)
      (case qq121 => k_is)
      (case qq122 => k_is)
    have h_law_hand_L := G58.fc_law_hand_L (Z := ⟨PySem.Challenge.rw_roundwarrant_k58_whole_texts_of_figures.prog, w, (hd58.heap_39 w.params), mg, base, tabOf G58.cs⟩) B rfl D_law_hand_L
    have D_law_draw_L : DefOk ⟨PySem.Challenge.rw_roundwarrant_k58_whole_texts_of_figures.prog, w, (hd58.heap_39 w.params), mg, base, tabOf G58.cs⟩ "_law_draw" G58.s_law_draw_L := by
      refine' def_mk KX G ?qq123 ?qq124 ?qq125 ?qq126
      (case qq123 => k_is)
      (case qq124 => k_is)
      (case qq125 => k_is)
      (case qq126 => k_is)
    have h_law_draw_L := G58.fc_law_draw_L (Z := ⟨PySem.Challenge.rw_roundwarrant_k58_whole_texts_of_figures.prog, w, (hd58.heap_39 w.params), mg, base, tabOf G58.cs⟩) B rfl D_law_draw_L
    have D_law_any_L : DefOk ⟨PySem.Challenge.rw_roundwarrant_k58_whole_texts_of_figures.prog, w, (hd58.heap_39 w.params), mg, base, tabOf G58.cs⟩ "_law_any" G58.s_law_any_L := by
      refine' def_mk KX G ?qq127 ?qq128 ?qq129 ?qq130
      (case qq127 => k_is)
      (case qq128 => k_is)
      (case qq129 => k_is)
      (case qq130 => k_is)
    have h_law_any_L := G58.fc_law_any_L (Z := ⟨PySem.Challenge.rw_roundwarrant_k58_whole_texts_of_figures.prog, w, (hd58.heap_39 w.params), mg, base, tabOf G58.cs⟩) B rfl h_law_draw_L D_law_any_L
    have D_law_is_L : DefOk ⟨PySem.Challenge.rw_roundwarrant_k58_whole_texts_of_figures.prog, w, (hd58.heap_39 w.params), mg, base, tabOf G58.cs⟩ "_law_is" G58.s_law_is_L := by
      refine' def_mk KX G ?qq131 ?qq132 ?qq133 ?qq134
      (case qq131 => k_is)
      (case qq132 => k_is)
      (case qq133 => k_is)
      (case qq134 => k_is)
    have h_law_is_L := G58.fc_law_is_L (Z := ⟨PySem.Challenge.rw_roundwarrant_k58_whole_texts_of_figures.prog, w, (hd58.heap_39 w.params), mg, base, tabOf G58.cs⟩) B rfl D_law_is_L
    have D_law_frac_L : DefOk ⟨PySem.Challenge.rw_roundwarrant_k58_whole_texts_of_figures.prog, w, (hd58.heap_39 w.params), mg, base, tabOf G58.cs⟩ "_law_frac" G58.s_law_frac_L := by
      refine' def_mk KX G ?qq135 ?qq136 ?qq137 ?qq138
      (case qq135 => k_is)
      (case qq136 => k_is)
      (case qq137 => k_is)
      (case qq138 => k_is)
    have h_law_frac_L := G58.fc_law_frac_L (Z := ⟨PySem.Challenge.rw_roundwarrant_k58_whole_texts_of_figures.prog, w, (hd58.heap_39 w.params), mg, base, tabOf G58.cs⟩) B rfl D_law_frac_L
    have D_law_mul_L : DefOk ⟨PySem.Challenge.rw_roundwarrant_k58_whole_texts_of_figures.prog, w, (hd58.heap_39 w.params), mg, base, tabOf G58.cs⟩ "_law_mul" G58.s_law_mul_L := by
      refine' def_mk KX G ?qq139 ?qq140 ?qq141 ?qq142
      (case qq139 => k_is)
      (case qq140 => k_is)
      (case qq141 => k_is)
      (case qq142 => k_is)
    have h_law_mul_L := G58.fc_law_mul_L (Z := ⟨PySem.Challenge.rw_roundwarrant_k58_whole_texts_of_figures.prog, w, (hd58.heap_39 w.params), mg, base, tabOf G58.cs⟩) B rfl h_law_frac_L D_law_mul_L
    have D_law_place_L : DefOk ⟨PySem.Challenge.rw_roundwarrant_k58_whole_texts_of_figures.prog, w, (hd58.heap_39 w.params), mg, base, tabOf G58.cs⟩ "_law_place" G58.s_law_place_L := by
      refine' def_mk KX G ?qq143 ?qq144 ?qq145 ?qq146
      (case qq143 => k_is)
      (case qq144 => k_is)
      (case qq145 => k_is)
      (case qq146 => k_is)
    have g_law_place_L := G58.fl_law_place_L (Z := ⟨PySem.Challenge.rw_roundwarrant_k58_whole_texts_of_figures.prog, w, (hd58.heap_39 w.params), mg, base, tabOf G58.cs⟩) B rfl e_BadText e_NoFraction hCR ER.cat ER.isE D_law_place_L
    have D_law_power_L : DefOk ⟨PySem.Challenge.rw_roundwarrant_k58_whole_texts_of_figures.prog, w, (hd58.heap_39 w.params), mg, base, tabOf G58.cs⟩ "_law_power" G58.s_law_power_L := by
      refine' def_mk KX G ?qq147 ?qq148 ?qq149 ?qq150
      (case qq147 => k_is)
      (case qq148 => k_is)
      (case qq149 => k_is)
      (case qq150 => k_is)
    have h_law_power_L := G58.fc_law_power_L (Z := ⟨PySem.Challenge.rw_roundwarrant_k58_whole_texts_of_figures.prog, w, (hd58.heap_39 w.params), mg, base, tabOf G58.cs⟩) B rfl D_law_power_L
    have D_law_told_text_L : DefOk ⟨PySem.Challenge.rw_roundwarrant_k58_whole_texts_of_figures.prog, w, (hd58.heap_39 w.params), mg, base, tabOf G58.cs⟩ "_law_told_text" G58.s_law_told_text_L := by
      refine' def_mk KX G ?qq151 ?qq152 ?qq153 ?qq154
      (case qq151 => k_is)
      (case qq152 => k_is)
      (case qq153 => k_is)
      (case qq154 => k_is)
    have h_law_told_text_L := G58.fc_law_told_text_L (Z := ⟨PySem.Challenge.rw_roundwarrant_k58_whole_texts_of_figures.prog, w, (hd58.heap_39 w.params), mg, base, tabOf G58.cs⟩) B rfl h_law_mul_L h_law_power_L D_law_told_text_L
    have D_law_figures_L : DefOk ⟨PySem.Challenge.rw_roundwarrant_k58_whole_texts_of_figures.prog, w, (hd58.heap_39 w.params), mg, base, tabOf G58.cs⟩ "_law_figures" G58.s_law_figures_L := by
      refine' def_mk KX G ?qq155 ?qq156 ?qq157 ?qq158
      (case qq155 => k_is)
      (case qq156 => k_is)
      (case qq157 => k_is)
      (case qq158 => k_is)
    have h_law_figures_L := G58.fc_law_figures_L (Z := ⟨PySem.Challenge.rw_roundwarrant_k58_whole_texts_of_figures.prog, w, (hd58.heap_39 w.params), mg, base, tabOf G58.cs⟩) B rfl h_law_draw_L h_law_any_L D_law_figures_L
    have D_law_text_L : DefOk ⟨PySem.Challenge.rw_roundwarrant_k58_whole_texts_of_figures.prog, w, (hd58.heap_39 w.params), mg, base, tabOf G58.cs⟩ "_law_text" G58.s_law_text_L := by
      refine' def_mk KX G ?qq159 ?qq160 ?qq161 ?qq162
      (case qq159 => k_is)
      (case qq160 => k_is)
      (case qq161 => k_is)
      (case qq162 => k_is)
    have h_law_text_L := G58.fc_law_text_L (Z := ⟨PySem.Challenge.rw_roundwarrant_k58_whole_texts_of_figures.prog, w, (hd58.heap_39 w.params), mg, base, tabOf G58.cs⟩) B rfl h_law_any_L h_law_figures_L h_law_draw_L D_law_text_L
    have D_law_spoiled_L : DefOk ⟨PySem.Challenge.rw_roundwarrant_k58_whole_texts_of_figures.prog, w, (hd58.heap_39 w.params), mg, base, tabOf G58.cs⟩ "_law_spoiled" G58.s_law_spoiled_L := by
      refine' def_mk KX G ?qq163 ?qq164 ?qq165 ?qq166
      (case qq163 => k_is)
      (case qq164 => k_is)
      (case qq165 => k_is)
      (case qq166 => k_is)
    have h_law_spoiled_L := G58.fc_law_spoiled_L (Z := ⟨PySem.Challenge.rw_roundwarrant_k58_whole_texts_of_figures.prog, w, (hd58.heap_39 w.params), mg, base, tabOf G58.cs⟩) B rfl h_law_draw_L h_law_any_L D_law_spoiled_L
    have D_law_summed_L : DefOk ⟨PySem.Challenge.rw_roundwarrant_k58_whole_texts_of_figures.prog, w, (hd58.heap_39 w.params), mg, base, tabOf G58.cs⟩ "_law_summed" G58.s_law_summed_L := by
      refine' def_mk KX G ?qq167 ?qq168 ?qq169 ?qq170
      (case qq167 => k_is)
      (case qq168 => k_is)
      (case qq169 => k_is)
      (case qq170 => k_is)
    have h_law_summed_L := G58.fc_law_summed_L (Z := ⟨PySem.Challenge.rw_roundwarrant_k58_whole_texts_of_figures.prog, w, (hd58.heap_39 w.params), mg, base, tabOf G58.cs⟩) B rfl h_plus h_times h_by h_less D_law_summed_L
    have D_law : DefOkC ⟨PySem.Challenge.rw_roundwarrant_k58_whole_texts_of_figures.prog, w, (hd58.heap_39 w.params), mg, base, tabOf G58.cs⟩ "law" G58.s_law 327 := by
      refine' defC_mk KX G ?qq171 ?qq172 ?qq173 ?qq174
      (case qq171 => k_is)
      (case qq172 => k_is)
      (case qq173 => k_is)
      (case qq174 => k_is)
    have h_law := G58.fc_law (Z := ⟨PySem.Challenge.rw_roundwarrant_k58_whole_texts_of_figures.prog, w, (hd58.heap_39 w.params), mg, base, tabOf G58.cs⟩) B rfl h_law_hand_L h_law_is_L h_read_exact h_law_text_L h_law_told_text_L h_is_fraction h_law_summed_L h_floor_of h_fraction h_law_spoiled_L h_law_any_L h_law_draw_L g_law_place_L (TB ⟨327, 323, "law.<locals>.<lambda>"⟩ (by simp)) (by simp) (fun p hp he => by simp at hp; rw [hp]) D_law
    obtain ⟨f1, m1, _, fa1⟩ := h_law.ex
    have ef : f1 = fa := by
      have z := m1.symm.trans hmg
      cases z
      rfl
    rw [← ef]
    exact fa1
theorem PySem.Challenge.cw_roundwarrant_k58_whole_texts_of_figures_holds : PySem.Challenge.rw_roundwarrant_k58_whole_texts_of_figures.Holds :=
  hd58 (by
    refine Mi.walk_end (l := PySem.Challenge.rw_roundwarrant_k58_whole_texts_of_figures) (n := 63) (k := 23) rfl (by decide) rfl ⟨rfl, by decide, by decide⟩ (fun w h Y => PySem.W.km_in_of Y) ?F
    case F =>
      intro w mg fa h Y XX KX G hmg
      exact G58.top_ok KX G XX (fun c hc => PySem.W.km_tabs_of Y c.tab (by simp at hc; rcases hc with rfl <;> simp)) hmg G58.law_true)
end
